/- What functions compute (Marks). No condition. -/
import Derived.Test.YtdgenniiidgimaaTy
import Derived.Test.YtdgenniiidgimaaVmG
import Derived.Test.YtdgenniiidgimaaWBase
set_option linter.unusedSimpArgs false
set_option linter.unusedVariables false
set_option linter.defProp false
namespace Go.Proofs.Ytdgenniiidgimaa
open Go Go.Vm

def markRow (k : Int) (n : Nat) : List Int := (List.range n).map fun j : Nat => k + j
theorem mark_succ (k : Int) (n : Nat) : markRow k (n + 1) = markRow k n ++ [k + n] := by simp [markRow, List.range_succ]
theorem mark_len (k : Int) (n : Nat) : (markRow k n).length = n := by simp [markRow]
theorem mark_step {l : List Int} {k : Int} {i : Nat} {x : Int} (h : l[i]? = some x) : (markRow k i ++ l.drop i).set i (k + i) = markRow k (i + 1) ++ l.drop (i + 1) := by
  rw [getElem_drop_cons h, mark_succ, List.set_append_right _ _ (by rw [mark_len]; omega), mark_len, Nat.sub_self, List.set_cons_zero, List.append_assoc]
  rfl
theorem mark_get {l : List Int} {k : Int} {i : Nat} {x : Int} (h : l[i]? = some x) : (markRow k i ++ l.drop i)[i]? = some x := by
  rw [List.getElem?_append_right (by rw [mark_len]; omega), mark_len, Nat.sub_self, getElem_drop_cons h]
  rfl
theorem mark_all {l : List Int} {k : Int} {i : Nat} (h : i ≤ l.length) : (markRow k i ++ l.drop i).length = l.length := by simp [mark_len]; omega
theorem mark_at {k : Int} {n i : Nat} (h : i < n) : (markRow k n)[i]? = some (k + i) := by
  simp [markRow, List.getElem?_map, List.getElem?_range h]

set_option maxHeartbeats 1000000 in
theorem markIntS_con (l : List Int) (k : Int) (hl : l.length ≤ 1048576) (hk : 0 ≤ k ∧ k ≤ 1152921504606846976) : Con Try.prog 21 [.ref 0, .int .i64 k] [.arr (l.map (V.int .i64)) .flat] (.int .i64 (k + l.length)) [.arr ((markRow k l.length).map (V.int .i64)) .flat] := by
 refine v_con [.tmp 4] [] Try.func21 rfl rfl rfl (by simp [Try.ntmps21]) ?_
 intro Q0 n0 r0
 simp only [Try.ntmps21, envFrom, Nat.reduceAdd]
 have T := Tys.mk (And.intro Ty.t3 Ty.t26)
 have F := Fc.mk True.intro
 refine v_seq ?_; intro Q1 n1 e1 r1
 refine v_region ?_; intro K2 k2
 refine zAssign ⟨?_⟩
 refine k2 _ ?_
 refine n1 _ _ (weak_keep [0, 1] _) ?_
 refine zk ⟨?_⟩
 refine v_seq ?_; intro Q3 n3 e3 r3
 refine v_seq ?_; intro Q4 n4 e4 r4
 refine v_region ?_; intro K5 k5
 refine zAssign ⟨?_⟩
 refine k5 _ ?_
 refine n4 _ _ (weak_keep [0, 1, 5] _) ?_
 refine zk ⟨?_⟩
 refine v_block ?_; intro Q6 n6 x6 e6 r6
 refine v_loop (fun i => ⟨[(0, .ref 0), (1, .int .i64 (k + Nat.cast i)), (5, .int .i64 (Nat.cast i))], [.arr ((markRow k i ++ l.drop i).map (V.int .i64)) .flat], false, 19, 0⟩) (fun i => i ≤ l.length) (fun i => l.length - i) 0 ?_ ?_ ?_
 ·refine weak_bothS [0, 1, 5] [0] ⟨?_⟩
  simp [markRow]
 ·exact Nat.zero_le _
 ·rintro i hok7 Q7 n7 e7 r7
  have hi1 : i ≤ l.length := hok7
  refine v_seq ?_; intro Q8 n8 e8 r8
  refine v_seq ?_; intro Q9 n9 e9 r9
  refine v_region ?_; intro K10 k10
  refine zMove ⟨?_⟩
  refine zMove ⟨?_⟩
  refine zLen ⟨?_⟩
  refine zBinOp ⟨?_⟩
  refine k10 _ ?_
  refine n9 _ _ (weak_keep [0, 1, 5, 9] _) ?_
  refine zk ⟨?_⟩
  refine v_condS _ rfl ?_ ?_
  ·intro hc0
   have hml := mark_all (k := k) hi1
   rw [hml] at hc0
   have hlt : i < l.length := by omega
   obtain ⟨x, hx⟩ : ∃ x, l[i]? = some x := ⟨l[i], List.getElem?_eq_getElem hlt⟩
   have hmg := mark_get (k := k) hx
   have hms := mark_step (k := k) hx
   refine v_skip ?_
   refine n8 _ _ (weak_keep [0, 1, 5] _) ?_
   refine zk ⟨?_⟩
   refine v_seq ?_; intro Q12 n12 e12 r12
   refine v_block ?_; intro Q13 n13 x13 e13 r13
   refine v_seq ?_; intro Q14 n14 e14 r14
   refine v_region ?_; intro K15 k15
   have F := Fc.mk (And.intro (fun f => getD_map (f := f) hmg) (And.intro hml (And.intro @set_map hms)))
   refine zMove ⟨?_⟩
   refine zMove ⟨?_⟩
   refine zMove ⟨?_⟩
   refine zIndexAddr ⟨?_⟩
   refine zStore ⟨?_⟩
   refine k15 _ ?_
   refine n14 _ _ (weak_keep [0, 1, 5] _) ?_
   refine zk ⟨?_⟩
   refine v_region ?_; intro K16 k16
   refine zMove ⟨?_⟩
   refine zBinOpW ⟨?_⟩
   refine zAssign ⟨?_⟩
   refine k16 _ ?_
   refine n13 _ ?_
   refine n12 _ _ (weak_keep [0, 1, 5] _) ?_
   refine zk ⟨?_⟩
   refine v_region ?_; intro K17 k17
   refine zMove ⟨?_⟩
   refine zBinOpW ⟨?_⟩
   refine zAssign ⟨?_⟩
   refine k17 _ ?_
   refine n7 _ (i + 1) ?_ ?_ ?_
   ·refine weak_bothS [0, 1, 5] [0] ⟨?_⟩
    rw [show (k + (i : Int) + 1) = k + ((i + 1 : Nat) : Int) by omega]; rfl
   ·exact hlt
   ·show _ < _; omega
  ·intro hc0
   rw [mark_all (k := k) hi1] at hc0
   refine v_exit ?_
   refine e8 _ _ ?_
   refine e7 _ _ ?_
   refine x6 _ ?_
   refine n3 _ _ (weak_keep [1] _) ?_
   refine zk ⟨?_⟩
   refine v_seq ?_; intro Q18 n18 e18 r18
   refine v_region ?_; intro K19 k19
   refine zMove ⟨?_⟩
   refine zAssign ⟨?_⟩
   refine k19 _ ?_
   refine n18 _ _ (weak_keep [4] _) ?_
   refine zk ⟨?_⟩
   refine v_ret ?_
   refine r0 _ ?_
   refine zf ⟨?_⟩
   have hend : i = l.length := by omega
   subst hend
   exact ret_lent rfl (by simp) rfl (by simp) (by simp [Blk.kindIs]) (.inl rfl)
end Go.Proofs.Ytdgenniiidgimaa
