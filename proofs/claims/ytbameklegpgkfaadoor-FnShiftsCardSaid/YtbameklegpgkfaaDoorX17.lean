/- What functions compute. No condition. -/
import Derived.Test.YtbameklegpgkfaaDoorUty
import Derived.Test.YtbameklegpgkfaaDoorUmG
import Derived.Test.YtbameklegpgkfaaDoorShelf
set_option linter.unusedSimpArgs false
set_option linter.unusedVariables false
set_option linter.defProp false
namespace Go.Proofs.YtbameklegpgkfaaDoor
open Go Go.Vm

set_option maxHeartbeats 1000000 in
theorem ins0_con  : Con Tryd.prog 174 [.ref 0, .int .i64 0, .int .i64 0] [.arr [] .flat] (.tup []) [.arr [] .flat] := by
 refine v_con [] [] Tryd.func174 rfl rfl rfl (by simp [Tryd.ntmps174]) ?_
 intro Q0 n0 r0
 simp only [Tryd.ntmps174, envFrom, Nat.reduceAdd]
 have T := Tys.mk (And.intro Ty.t3 (And.intro Ty.t4 Ty.t36))
 have F := Fc.mk True.intro
 refine v_seqR [0,1,2,6] ?_; intro K1 k1
 refine zMove ⟨?_⟩
 refine zBinOpW ⟨?_⟩
 refine zAssign ⟨?_⟩
 refine k1 _ ?_
 refine zk ⟨?_⟩
 refine v_block ?_; intro Q2 n2 x2 e2 r2
 refine v_loop (fun i => ⟨[(0, .ref 0), (1, .int .i64 0), (2, .int .i64 0), (6, .int .i64 1)], [.arr [] .flat], false, 49, 0⟩) (fun i => True) (fun i => 0) () ?_ ?_ ?_
 ·refine weak_of [0, 1, 2, 6] ?_
  simp only [keep_mk, keepE_nil, keepE_cons, look_cons, look_nil, Nat.reduceEqDiff, reduceIte]
  all_goals rfl
 ·trivial
 ·rintro i hok3 Q3 n3 e3 r3
  have hok : True := hok3
  refine v_seq ?_; intro Q4 n4 e4 r4
  refine v_seqR [0,1,2,6,12] ?_; intro K5 k5
  refine zMove ⟨?_⟩
  refine zMove ⟨?_⟩
  refine zBinOp ⟨?_⟩
  refine k5 _ ?_
  refine zk ⟨?_⟩
  refine v_cond _ rfl ?_ ?_
  ·intro hc0
   exfalso; simp at hc0
  ·intro hc0
   try simp only [zC, reduceCtorEq] at hc0
   refine v_exit ?_
   refine e4 _ _ ?_
   refine e3 _ _ ?_
   refine x2 _ ?_
   refine n0 _ ?_
   refine zf ⟨?_⟩
   exact ret_lent rfl (by simp) rfl (by simp) (by simp [Blk.kindIs]) (.inl rfl)
set_option maxHeartbeats 1000000 in
theorem pdq0_con (lim : Int) : Con Tryd.prog 148 [.ref 0, .int .i64 0, .int .i64 0, .int .i64 lim] [.arr [] .flat] (.tup []) [.arr [] .flat] := by
 refine v_con [] [(174, [0])] Tryd.func148 rfl rfl rfl (by simp [Tryd.ntmps148]) ?_
 intro Q0 n0 r0
 simp only [Tryd.ntmps148, envFrom, Nat.reduceAdd]
 have T := Tys.mk (And.intro Ty.t3 (And.intro Ty.t4 (And.intro Ty.t36 Ty.t157)))
 have F := Fc.mk True.intro
 refine v_seqR [0,1,2,3,8] ?_; intro K1 k1
 refine zAssign ⟨?_⟩
 refine k1 _ ?_
 refine zk ⟨?_⟩
 refine v_seqR [0,1,2,3,8,9] ?_; intro K2 k2
 refine zAssign ⟨?_⟩
 refine k2 _ ?_
 refine zk ⟨?_⟩
 refine v_block ?_; intro Q3 n3 x3 e3 r3
 refine v_loop (fun i => ⟨[(0, .ref 0), (1, .int .i64 0), (2, .int .i64 0), (3, .int .i64 lim), (8, .bool true), (9, .bool true)], [.arr [] .flat], false, 134, 0⟩) (fun i => True) (fun i => 0) () ?_ ?_ ?_
 ·refine weak_of [0, 1, 2, 3, 8, 9] ?_
  simp only [keep_mk, keepE_nil, keepE_cons, look_cons, look_nil, Nat.reduceEqDiff, reduceIte]
  all_goals rfl
 ·trivial
 ·rintro i hok4 Q4 n4 e4 r4
  have hok : True := hok4
  refine v_block ?_; intro Q5 n5 x5 e5 r5
  refine v_seqR [0,1,2,3,8,9,10] ?_; intro K6 k6
  refine zMove ⟨?_⟩
  refine zMove ⟨?_⟩
  refine zBinOpW ⟨?_⟩
  refine zAssign ⟨?_⟩
  refine k6 _ ?_
  refine zk ⟨?_⟩
  refine v_seq ?_; intro Q7 n7 e7 r7
  refine v_seqR [0,1,2,3,8,9,10,23] ?_; intro K8 k8
  refine zMove ⟨?_⟩
  refine zBinOp ⟨?_⟩
  refine k8 _ ?_
  refine zk ⟨?_⟩
  refine v_cond _ rfl ?_ ?_
  ·intro hc0
   try simp only [zC, reduceCtorEq] at hc0
   refine v_seqR [] ?_; intro K10 k10
   refine zMove ⟨?_⟩
   refine zMove ⟨?_⟩
   refine zMove ⟨?_⟩
   refine zcl (ins0_con) ⟨?_⟩
   refine k10 _ ?_
   refine zk ⟨?_⟩
   refine v_ret ?_
   refine r7 _ ?_
   refine r5 _ ?_
   refine r4 _ ?_
   refine r3 _ ?_
   refine r0 _ ?_
   refine zf ⟨?_⟩
   exact ret_lent rfl (by simp) rfl (by simp) (by simp [Blk.kindIs]) (.inl rfl)
  ·intro hc0
   exfalso; simp at hc0
set_option maxRecDepth 100000 in
set_option maxHeartbeats 1000000 in
theorem len64_0_con  : Con Tryd.prog 184 [.int .u64 0] [] (.int .i64 0) [] := by
 refine v_con [.tmp 2] [] Tryd.func184 rfl rfl rfl (by simp [Tryd.ntmps184]) ?_
 intro Q0 n0 r0
 simp only [Tryd.ntmps184, envFrom, Nat.reduceAdd]
 have T := Tys.mk (And.intro Ty.t3 (And.intro Ty.t5 (And.intro Ty.t9 (And.intro Ty.t96 Ty.t141))))
 have F := Fc.mk True.intro
 refine v_seqR [0,2] ?_; intro K1 k1
 refine zAssign ⟨?_⟩
 refine k1 _ ?_
 refine zk ⟨?_⟩
 refine v_seq ?_; intro Q2 n2 e2 r2
 refine v_seqR [0,2,4] ?_; intro K3 k3
 refine zMove ⟨?_⟩
 refine zBinOp ⟨?_⟩
 refine k3 _ ?_
 refine zk ⟨?_⟩
 refine v_cond _ rfl ?_ ?_
 ·intro hc0
  exfalso; simp at hc0
 ·intro hc0
  try simp only [zC, reduceCtorEq] at hc0
  refine v_skip ?_
  refine n2 _ _ (weak_keep [0, 2] _) ?_
  refine zk ⟨?_⟩
  refine v_seq ?_; intro Q5 n5 e5 r5
  refine v_seqR [0,2,8] ?_; intro K6 k6
  refine zMove ⟨?_⟩
  refine zBinOp ⟨?_⟩
  refine k6 _ ?_
  refine zk ⟨?_⟩
  refine v_cond _ rfl ?_ ?_
  ·intro hc1
   exfalso; simp at hc1
  ·intro hc1
   try simp only [zC, reduceCtorEq] at hc1
   refine v_skip ?_
   refine n5 _ _ (weak_keep [0, 2] _) ?_
   refine zk ⟨?_⟩
   refine v_seq ?_; intro Q8 n8 e8 r8
   refine v_seqR [0,2,14] ?_; intro K9 k9
   refine zMove ⟨?_⟩
   refine zBinOp ⟨?_⟩
   refine k9 _ ?_
   refine zk ⟨?_⟩
   refine v_cond _ rfl ?_ ?_
   ·intro hc2
    exfalso; simp at hc2
   ·intro hc2
    try simp only [zC, reduceCtorEq] at hc2
    refine v_skip ?_
    refine n8 _ _ (weak_keep [0, 2] _) ?_
    refine zk ⟨?_⟩
    refine v_seqR [2] ?_; intro K11 k11
    refine zMove ⟨?_⟩
    refine zMove ⟨?_⟩
    refine zConvert ⟨?_⟩
    refine v_op ?_; intro K k
    simp only [zE, zL, zN, aStepM, optable, set_some, Nat.reduceEqDiff, reduceIte, Nat.reduceLT, implies_true, forall_const, reduceCtorEq, V.ofValue, V.ofScalar, V.un, V.gd, aExec, aop, aIndex, Int.toNat_natCast, Int.reduceToNat, Nat.reduceAdd, Nat.reduceLeDiff, Nat.reduceMul, Tryd.underlying9]
    repeat (refine And.intro (by first | decide | exact ⟨by decide, by decide⟩ | (intro _; exact ⟨by decide, by decide⟩) | rfl | exact ⟨_, rfl⟩) ?_)
    refine k _ ?_; clear k K
    refine zConvert ⟨?_⟩
    refine zBinOpW ⟨?_⟩
    refine zAssign ⟨?_⟩
    refine k11 _ ?_
    refine zk ⟨?_⟩
    refine v_ret ?_
    refine r0 _ ?_
    refine zf ⟨?_⟩
    exact ret_pure rfl (by rfl) (.inl rfl)
set_option maxHeartbeats 1000000 in
theorem len_0_con  : Con Tryd.prog 149 [.int .u64 0] [] (.int .i64 0) [] := by
 refine v_con [.tmp 2] [] Tryd.func149 rfl rfl rfl (by simp [Tryd.ntmps149]) ?_
 intro Q0 n0 r0
 simp only [Tryd.ntmps149, envFrom, Nat.reduceAdd]
 have T := Tys.mk (And.intro Ty.t3 (And.intro Ty.t96 Ty.t141))
 have F := Fc.mk True.intro
 refine v_seqR [0] ?_; intro K1 k1
 refine zAssign ⟨?_⟩
 refine k1 _ ?_
 refine zk ⟨?_⟩
 refine v_seq ?_; intro Q2 n2 e2 r2
 refine v_cond _ rfl ?_ ?_
 ·intro hc0
  exfalso; simp at hc0
 ·intro hc0
  try simp only [zC, reduceCtorEq] at hc0
  refine v_skip ?_
  refine n2 _ _ (weak_keep [0] _) ?_
  refine zk ⟨?_⟩
  refine v_seqR [2] ?_; intro K4 k4
  refine zMove ⟨?_⟩
  refine zc (len64_0_con) ⟨?_⟩
  refine zAssign ⟨?_⟩
  refine k4 _ ?_
  refine zk ⟨?_⟩
  refine v_ret ?_
  refine r0 _ ?_
  refine zf ⟨?_⟩
  exact ret_pure rfl rfl (.inl rfl)
set_option maxHeartbeats 1000000 in
theorem sort0_con  : Con Tryd.prog 83 [.ref 0] [.arr [] .flat] (.tup []) [.arr [] .flat] := by
 refine v_con [] [(148, [0])] Tryd.func83 rfl rfl rfl (by simp [Tryd.ntmps83]) ?_
 intro Q0 n0 r0
 simp only [Tryd.ntmps83, envFrom, Nat.reduceAdd]
 have T := Tys.mk (And.intro Ty.t3 (And.intro Ty.t36 Ty.t141))
 have F := Fc.mk True.intro
 refine v_seqR [0,2] ?_; intro K1 k1
 refine zMove ⟨?_⟩
 refine zLen ⟨?_⟩
 refine zAssign ⟨?_⟩
 refine k1 _ ?_
 refine zk ⟨?_⟩
 refine v_region ?_; intro K2 k2
 refine zMove ⟨?_⟩
 refine zMove ⟨?_⟩
 refine zMove ⟨?_⟩
 refine zConvert ⟨?_⟩
 refine zc (len_0_con) ⟨?_⟩
 refine zcl (pdq0_con 0) ⟨?_⟩
 refine k2 _ ?_
 refine n0 _ ?_
 refine zf ⟨?_⟩
 exact ret_lent rfl (by simp) rfl (by simp) (by simp [Blk.kindIs]) (.inl rfl)
theorem sortAny_con (zs : List Int) (hl : zs.length < 4611686018427387904) : Con Tryd.prog 83 [.ref 0] [.arr (zs.map (V.int .i64)) .flat] (.tup []) [.arr ((sortL zs).map (V.int .i64)) .flat] := by
  by_cases hne : zs = []
  · subst hne
    have e : sortL [] = [] := List.length_eq_zero_iff.1 (sortL_len [])
    rw [e]; exact sort0_con
  · exact con_sort zs ⟨_, Tryd.func83, rfl, rfl⟩ hne (fun blk off cap w h1 h2 => Tryd.slices_Sort_int blk off cap zs w h1 h2 hl)

end Go.Proofs.YtbameklegpgkfaaDoor
