/- What functions compute. No condition. -/
import Derived.Test.YtbameklegpgkfaaDoorUty
import Derived.Test.YtbameklegpgkfaaDoorUmG
set_option linter.unusedSimpArgs false
set_option linter.unusedVariables false
set_option linter.defProp false
namespace Go.Proofs.YtbameklegpgkfaaDoor
open Go Go.Vm

set_option maxHeartbeats 1000000 in
theorem inside_con (n lo hi : Int) : Con Tryd.prog 79 [.int .i64 n, .int .i64 lo, .int .i64 hi] [] (.bool (decide (lo ≤ n) && decide (n ≤ hi))) [] := by
 refine v_con [.tmp 6] [] Tryd.func79 rfl rfl rfl (by simp [Tryd.ntmps79]) ?_
 intro Q0 n0 r0
 simp only [Tryd.ntmps79, envFrom, Nat.reduceAdd]
 have T := Tys.mk Ty.t3
 have F := Fc.mk True.intro
 refine v_seqR [0,1,2] ?_; intro K1 k1
 refine zAssign ⟨?_⟩
 refine k1 _ ?_
 refine zk ⟨?_⟩
 refine v_seqR [6] ?_; intro K2 k2
 refine zMove ⟨?_⟩
 refine zMove ⟨?_⟩
 refine zBinOp ⟨?_⟩
 refine zMove ⟨?_⟩
 refine zgMove ⟨?_⟩
 refine zgMove ⟨?_⟩
 refine zgBinOp ⟨?_⟩
 refine zPick ⟨?_⟩
 refine zAssign ⟨?_⟩
 refine k2 _ ?_
 refine zk ⟨?_⟩
 refine v_ret ?_
 refine r0 _ ?_
 refine zf ⟨?_⟩
 exact ret_pure rfl (by first | rfl | simp) (.inl rfl)
set_option maxHeartbeats 1000000 in
theorem l1In_con (n lo hi : Int) : Con Tryd.prog 87 [.int .i64 n, .int .i64 lo, .int .i64 hi] [] (.bool (decide (lo ≤ n) && decide (n ≤ hi))) [] := by
 refine v_con [.tmp 6] [] Tryd.func87 rfl rfl rfl (by simp [Tryd.ntmps87]) ?_
 intro Q0 n0 r0
 simp only [Tryd.ntmps87, envFrom, Nat.reduceAdd]
 have T := Tys.mk Ty.t3
 have F := Fc.mk True.intro
 refine v_seqR [0,1,2] ?_; intro K1 k1
 refine zAssign ⟨?_⟩
 refine k1 _ ?_
 refine zk ⟨?_⟩
 refine v_seqR [6] ?_; intro K2 k2
 refine zMove ⟨?_⟩
 refine zMove ⟨?_⟩
 refine zBinOp ⟨?_⟩
 refine zMove ⟨?_⟩
 refine zgMove ⟨?_⟩
 refine zgMove ⟨?_⟩
 refine zgBinOp ⟨?_⟩
 refine zPick ⟨?_⟩
 refine zAssign ⟨?_⟩
 refine k2 _ ?_
 refine zk ⟨?_⟩
 refine v_ret ?_
 refine r0 _ ?_
 refine zf ⟨?_⟩
 exact ret_pure rfl (by first | rfl | simp) (.inl rfl)
theorem getElem_drop_cons {α : Type} {l : List α} {i : Nat} {x : α} (h : l[i]? = some x) : l.drop i = x :: l.drop (i + 1) := by
  obtain ⟨hi, rfl⟩ := List.getElem?_eq_some_iff.1 h
  exact List.drop_eq_getElem_cons hi
theorem eq_drop {α : Type} [DecidableEq α] {a b : List α} {i : Nat} (h : a.length = b.length) {x y : α} (hx : a[i]? = some x) (hy : b[i]? = some y) : (a.drop i = b.drop i) ↔ (x = y ∧ a.drop (i + 1) = b.drop (i + 1)) := by
  rw [getElem_drop_cons hx, getElem_drop_cons hy, List.cons.injEq]
theorem all_drop {α : Type} {f : α → Bool} {l : List α} {i : Nat} {x : α} (h : l[i]? = some x) : (l.drop i).all f = (f x && (l.drop (i + 1)).all f) := by
  rw [getElem_drop_cons h, List.all_cons]
theorem foldl_drop {α β : Type} {f : β → α → β} {l : List α} {i : Nat} {x : α} (h : l[i]? = some x) (b : β) : (l.drop i).foldl f b = (l.drop (i + 1)).foldl f (f b x) := by
  rw [getElem_drop_cons h, List.foldl_cons]
theorem foldl_end {α β : Type} {f : β → α → β} {l : List α} {i : Nat} (h : l.length ≤ i) (b : β) : (l.drop i).foldl f b = b := by
  rw [List.drop_of_length_le h]; rfl
theorem set_map {α : Type} {f : α → V} {l : List α} {i : Nat} {x : α} : (l.map f).set i (f x) = (l.set i x).map f := (List.map_set).symm

end Go.Proofs.YtbameklegpgkfaaDoor
