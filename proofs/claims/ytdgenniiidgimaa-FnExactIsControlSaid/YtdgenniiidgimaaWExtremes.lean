/- What functions compute (Extremes). No condition. -/
import Derived.Test.YtdgenniiidgimaaTy
import Derived.Test.YtdgenniiidgimaaVmG
import Derived.Test.YtdgenniiidgimaaWBase
set_option linter.unusedSimpArgs false
set_option linter.unusedVariables false
set_option linter.defProp false
namespace Go.Proofs.Ytdgenniiidgimaa
open Go Go.Vm

def mostL (l : List Int) (a : Int) : Int := l.foldl (fun m x => if x > m then x else m) a
def leastL (l : List Int) (a : Int) : Int := l.foldl (fun m x => if x < m then x else m) a
theorem most_step {l : List Int} {i : Nat} {x : Int} (h : l[i]? = some x) (m : Int) : mostL (l.drop i) m = mostL (l.drop (i + 1)) (if x > m then x else m) := foldl_drop h m
theorem least_step {l : List Int} {i : Nat} {x : Int} (h : l[i]? = some x) (m : Int) : leastL (l.drop i) m = leastL (l.drop (i + 1)) (if x < m then x else m) := foldl_drop h m
theorem most_end {l : List Int} {i : Nat} (h : l.length ≤ i) (m : Int) : mostL (l.drop i) m = m := foldl_end h m
theorem least_end {l : List Int} {i : Nat} (h : l.length ≤ i) (m : Int) : leastL (l.drop i) m = m := foldl_end h m
theorem most_cons (x : Int) (l : List Int) : mostL (x :: l) x = mostL l x := by simp [mostL]
theorem least_cons (x : Int) (l : List Int) : leastL (x :: l) x = leastL l x := by simp [leastL]

set_option maxHeartbeats 1000000 in
theorem slMax_con (x : Int) (l : List Int) (hl : (x :: l).length ≤ 1048576) : Con Try.prog 166 [.sl ((x :: l).map (V.int .i64))] [] (.int .i64 (mostL l x)) [] := by
 obtain ⟨xl, hxl⟩ : ∃ xl, xl = x :: l := ⟨_, rfl⟩
 have h0 : xl[0]? = some x := by rw [hxl]; rfl
 have hres : mostL (xl.drop 1) x = mostL l x := by rw [hxl]; rfl
 rw [← hxl] at hl ⊢
 rw [← hres]
 have hpos : 0 < xl.length := by rw [hxl]; simp
 refine v_con [.tmp 2] [] Try.func166 rfl rfl rfl (by simp [Try.ntmps166]) ?_
 intro Q0 n0 r0
 simp only [Try.ntmps166, envFrom, Nat.reduceAdd]
 have T := Tys.mk (And.intro Ty.t3 Ty.t26)
 have F := Fc.mk True.intro
 refine v_seq ?_; intro Q1 n1 e1 r1
 refine v_region ?_; intro K2 k2
 have F := Fc.mk (fun f => getD_map (f := f) h0)
 refine zAssign ⟨?_⟩
 refine k2 _ ?_
 refine n1 _ _ (weak_keep [0] _) ?_
 refine zk ⟨?_⟩
 refine v_seq ?_; intro Q3 n3 e3 r3
 refine v_seq ?_; intro Q4 n4 e4 r4
 refine v_region ?_; intro K5 k5
 refine zMove ⟨?_⟩
 refine zLen ⟨?_⟩
 refine zBinOp ⟨?_⟩
 refine k5 _ ?_
 refine n4 _ _ (weak_keep [0, 7] _) ?_
 refine zk ⟨?_⟩
 refine v_cond _ rfl ?_ ?_
 ·intro hc0
  exfalso; have hq := of_decide_eq_true hc0; omega
 ·intro hc0
  try simp only [zC, reduceCtorEq] at hc0
  refine v_skip ?_
  refine n3 _ _ (weak_keep [0] _) ?_
  refine zk ⟨?_⟩
  refine v_seq ?_; intro Q7 n7 e7 r7
  refine v_region ?_; intro K8 k8
  refine zMove ⟨?_⟩
  refine zIndexAddr ⟨?_⟩
  refine zLoad ⟨?_⟩
  refine zAssign ⟨?_⟩
  refine k8 _ ?_
  refine n7 _ _ (weak_keep [0, 3] _) ?_
  refine zk ⟨?_⟩
  refine v_seq ?_; intro Q9 n9 e9 r9
  refine v_seq ?_; intro Q10 n10 e10 r10
  refine v_region ?_; intro K11 k11
  refine zAssign ⟨?_⟩
  refine k11 _ ?_
  refine n10 _ _ (weak_keep [0, 3, 4] _) ?_
  refine zk ⟨?_⟩
  refine v_block ?_; intro Q12 n12 x12 e12 r12
  refine v_loop (fun p => ⟨[(0, .sl (xl.map (V.int .i64))), (3, .int .i64 p.2), (4, .int .i64 (Nat.cast p.1))], [], false, 25, 0⟩) (fun p => 1 ≤ p.1 ∧ p.1 ≤ xl.length ∧ mostL (xl.drop p.1) p.2 = mostL (xl.drop 1) x) (fun p => xl.length - p.1) ((1, x) : Nat × Int) ?_ ?_ ?_
  ·refine weak_of [0, 3, 4] ?_
   simp only [keep_mk, keepE_nil, keepE_cons, look_cons, look_nil, Nat.reduceEqDiff, reduceIte]
   rfl
  ·exact ⟨Nat.le_refl _, hpos, rfl⟩
  ·rintro p hok13 Q13 n13 e13 r13
   obtain ⟨hi0, hi1, hR⟩ := hok13
   refine v_seq ?_; intro Q14 n14 e14 r14
   refine v_seq ?_; intro Q15 n15 e15 r15
   refine v_region ?_; intro K16 k16
   refine zMove ⟨?_⟩
   refine zMove ⟨?_⟩
   refine zLen ⟨?_⟩
   refine zBinOp ⟨?_⟩
   refine k16 _ ?_
   refine n15 _ _ (weak_keep [0, 3, 4, 15] _) ?_
   refine zk ⟨?_⟩
   refine v_condS _ rfl ?_ ?_
   ·intro hc1
    have hlt : p.1 < xl.length := by omega
    obtain ⟨y, hy⟩ : ∃ y, xl[p.1]? = some y := ⟨xl[p.1], List.getElem?_eq_getElem hlt⟩
    refine v_skip ?_
    refine n14 _ _ (weak_keep [0, 3, 4] _) ?_
    refine zk ⟨?_⟩
    refine v_seq ?_; intro Q18 n18 e18 r18
    refine v_block ?_; intro Q19 n19 x19 e19 r19
    refine v_region ?_; intro K20 k20
    have F := Fc.mk (And.intro (fun f => getD_map (f := f) h0) (fun f => getD_map (f := f) hy))
    refine zMove ⟨?_⟩
    refine zMove ⟨?_⟩
    refine zMove ⟨?_⟩
    refine zIndexAddr ⟨?_⟩
    refine zLoad ⟨?_⟩
    refine zMax ⟨?_⟩
    refine zAssign ⟨?_⟩
    refine k20 _ ?_
    refine n19 _ ?_
    refine n18 _ _ (weak_keep [0, 3, 4] _) ?_
    refine zk ⟨?_⟩
    refine v_region ?_; intro K21 k21
    refine zMove ⟨?_⟩
    refine zBinOpW ⟨?_⟩
    refine zAssign ⟨?_⟩
    refine k21 _ ?_
    refine n13 _ (p.1 + 1, if y > p.2 then y else p.2) ?_ ?_ ?_
    ·refine weak_of [0, 3, 4] ?_
     simp only [keep_mk, keepE_nil, keepE_cons, look_cons, look_nil, Nat.reduceEqDiff, reduceIte]
     rfl
    ·exact ⟨by show 1 ≤ p.1 + 1; omega, by show p.1 + 1 ≤ _; omega, by show mostL (xl.drop (p.1 + 1)) _ = _; rw [← hR, most_step hy]⟩
    ·show _ < _; show xl.length - (p.1 + 1) < _; omega
   ·intro hc1
    refine v_exit ?_
    refine e14 _ _ ?_
    refine e13 _ _ ?_
    refine x12 _ ?_
    refine n9 _ _ (weak_keep [3] _) ?_
    refine zk ⟨?_⟩
    refine v_seq ?_; intro Q22 n22 e22 r22
    refine v_region ?_; intro K23 k23
    refine zMove ⟨?_⟩
    refine zAssign ⟨?_⟩
    refine k23 _ ?_
    refine n22 _ _ (weak_keep [2] _) ?_
    refine zk ⟨?_⟩
    refine v_ret ?_
    refine r0 _ ?_
    refine zf ⟨?_⟩
    exact ret_pure rfl (by rw [← hR, most_end (by omega)]) (.inl rfl)
end Go.Proofs.Ytdgenniiidgimaa
