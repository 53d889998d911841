/- What functions compute. No condition. -/
import Derived.Test.YtdgenniiidgimaaGreatUty
import Derived.Test.YtdgenniiidgimaaGreatUmG
set_option linter.unusedSimpArgs false
set_option linter.unusedVariables false
set_option linter.defProp false
namespace Go.Proofs.YtdgenniiidgimaaGreat
open Go Go.Vm

set_option maxHeartbeats 1000000 in
theorem l1Own_con (l : List Int) (hl : l.length ≤ 1048576) : Con Tryz.prog 128 [.sl (l.map (V.int .i64))] [] (.ref 0) [.arr (l.map (V.int .i64)) .flat] := by
 have hns : (l.map (V.int .i64)).all V.noSl = true := by rw [List.all_map, List.all_eq_true]; intro a _; rfl
 refine v_con [.tmp 2] [] Tryz.func128 rfl rfl rfl (by simp [Tryz.ntmps128]) ?_
 intro Q0 n0 r0
 simp only [Tryz.ntmps128, envFrom, Nat.reduceAdd]
 have T := Tys.mk (And.intro Ty.t3 Ty.t32)
 have F := Fc.mk True.intro
 refine v_seqR [0] ?_; intro K1 k1
 have F := Fc.mk hns
 refine zAssign ⟨?_⟩
 refine k1 _ ?_
 refine zk ⟨?_⟩
 refine v_seqR [2] ?_; intro K2 k2
 refine zBuildSlice ⟨?_⟩
 refine zMove ⟨?_⟩
 refine zAppend ⟨?_⟩
 refine zAssign ⟨?_⟩
 refine k2 _ ?_
 refine zk ⟨?_⟩
 refine v_ret ?_
 refine r0 _ ?_
 refine zf ⟨?_⟩
 exact ret_refK rfl rfl (by simp)
end Go.Proofs.YtdgenniiidgimaaGreat
