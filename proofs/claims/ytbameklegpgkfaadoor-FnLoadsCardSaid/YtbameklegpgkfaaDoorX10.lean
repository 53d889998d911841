/- What functions compute. No condition. -/
import Derived.Test.YtbameklegpgkfaaDoorUz
import Derived.Test.YtbameklegpgkfaaDoorUty
import Derived.Test.YtbameklegpgkfaaDoorUmG
import Derived.Test.YtbameklegpgkfaaDoorX3
set_option linter.unusedSimpArgs false
set_option linter.unusedVariables false
set_option linter.defProp false
namespace Go.Proofs.YtbameklegpgkfaaDoor
open Go Go.Vm
set_option maxHeartbeats 1000000 in
theorem eqOwn_con (a:ByteArray) (l:List (ByteArray×Int×Int)) (hl:l.length≤1048576):Con Tryd.prog 123 [.agg [.str a,.sl (l.map (fun t:ByteArray×Int×Int=>V.agg [V.str t.1,V.int .i64 t.2.1,V.int .i64 t.2.2]))]] [] (.agg [.str a,.ref 0]) [.arr (l.map (fun t:ByteArray×Int×Int=>V.agg [V.str t.1,V.int .i64 t.2.1,V.int .i64 t.2.2])) .flat]:=by
 have hnsA:∀q:List (ByteArray×Int×Int),(q.map (fun t:ByteArray×Int×Int=>V.agg [V.str t.1,V.int .i64 t.2.1,V.int .i64 t.2.2])).all V.noSl=true:=fun q=>by rw [List.all_map,List.all_eq_true];intro a _;rfl
 refine v_con [.cell 2 65] [] Tryd.func123 rfl rfl rfl (by simp [Tryd.ntmps123]) ?_
 intro Q0 n0 r0
 simp only [Tryd.ntmps123,envFrom,Nat.reduceAdd]
 have T:=Tys.mk (And.intro Ty.t3 (And.intro Ty.t9 (And.intro Ty.t63 (And.intro Ty.t65 Ty.t93))))
 have F:=Fc.mk True.intro
 refine v_seqR [1,2] ?_;intro K1 k1
 have F:=Fc.mk hnsA
 refine zq34 ⟨?_⟩;refine k1 _ ?_;refine zk ⟨?_⟩
 apply v_seq1
 ·intro Q2 n2 e2 r2
  refine v_draw (by kernel_rfl) ?_;intro K3 q3 k3
  show aAny _ _ _ _ 8 (Array.replicate 8 false) _
  refine zdFieldAddr q3 false 0 3 ?_;refine zdFieldAddr q3 true 3 6 ?_;refine zdLoad q3 true 4 7 ?_;refine aAny_two 1 2 rfl rfl (by kernel_rfl) ?_ ?_
  ·intro K k
   skip
   simp only [zE,zL,zO,zN,aStepM,optable,set_some,Nat.reduceEqDiff,reduceIte,Nat.reduceLT,implies_true,forall_const,reduceCtorEq,V.ofValue,V.ofScalar,V.un,V.gd,aExec,aop,aLoad,row_mk,Blk.row,PartOK,Go.Vm.part,V.cells,V.noSl,V.noRef,Nat.reduceAdd,Nat.reduceLeDiff,Nat.reduceMul,Tryd.underlying9,Ty.c9,Ty.a9,hnsA]
   repeat (refine And.intro (by first | omega | (intros;omega) | (intros;simp_all;done) | (intros;simp_all;omega)) ?_)
   refine k _ ?_;clear k K;refine zoBuildSlice 2 ⟨?_⟩;refine zoAppend 5 ⟨?_⟩;refine zdBuild q3 true 6 9 ?_;refine zoStore 7 ⟨?_⟩;refine aAny_done (by kernel_rfl) ?_;refine k3 _ ?_;refine n2 _ ?_
   exact weak_one [2] [0,1,2,3,4]
  ·refine zsBuildSlice ⟨?_⟩
   refine aAny_two 1 5 rfl rfl (by kernel_rfl) ?_ ?_
   ·intro K k
    skip
    simp only [zE,zL,zO,zN,aStepM,optable,set_some,Nat.reduceEqDiff,reduceIte,Nat.reduceLT,implies_true,forall_const,reduceCtorEq,V.ofValue,V.ofScalar,V.un,V.gd,aExec,aop,aLoad,row_mk,Blk.row,PartOK,Go.Vm.part,V.cells,V.noSl,V.noRef,Nat.reduceAdd,Nat.reduceLeDiff,Nat.reduceMul,Tryd.underlying9,Ty.c9,Ty.a9,hnsA]
    repeat (refine And.intro (by first | omega | (intros;omega) | (intros;simp_all;done) | (intros;simp_all;omega)) ?_)
    refine k _ ?_;clear k K;refine zoAppend 5 ⟨?_⟩;refine zdBuild q3 true 6 9 ?_;refine zoStore 7 ⟨?_⟩;refine aAny_done (by kernel_rfl) ?_;refine k3 _ ?_;refine n2 _ ?_
    exact weak_same [2] [0,1,2,3,4]
   ·refine zsAppend ⟨?_⟩
    refine zdLoad q3 true 1 4 ?_;refine zdBuild q3 true 6 9 ?_;refine zoStore 7 ⟨?_⟩;refine aAny_done (by kernel_rfl) ?_;refine k3 _ ?_;refine n2 _ ?_
    exact weak_same [2] [0,1,2,3,4]
 ·refine zkm ⟨?_⟩
  refine v_ret ?_;refine r0 _ ?_;refine zf ⟨?_⟩
  simp only [zE,zL,zO,zN,aStepM,optable,set_some,Nat.reduceEqDiff,reduceIte,Nat.reduceLT,implies_true,forall_const,reduceCtorEq,V.ofValue,V.ofScalar,V.un,V.gd,aLoad,row_mk,Blk.row,PartOK,Go.Vm.part,V.cells,V.noSl,V.noRef,Nat.reduceAdd,Nat.reduceLeDiff,Nat.reduceMul,Tryd.underlying9,Ty.c9,Ty.a9,Tryd.underlying63,Ty.c63,Ty.a63,Tryd.underlying65,Ty.c65,Ty.a65]
  exact ret_all rfl (by first | decide | simp [newIds,refsOf,refs2,refs1]) (by simp) rfl (by simp [newIds,refsOf,refs2,refs1]) (by simp [Blk.kindIs,fillK_fd]) rfl
end Go.Proofs.YtbameklegpgkfaaDoor
