/- What functions compute. No condition. -/
import Derived.Test.YtbameklegpgkfaaDoorUz
import Derived.Test.YtbameklegpgkfaaDoorUty
import Derived.Test.YtbameklegpgkfaaDoorUmG
import Derived.Test.YtbameklegpgkfaaDoorX9
import Derived.Test.YtbameklegpgkfaaDoorX4
import Derived.Test.YtbameklegpgkfaaDoorX11
import Derived.Test.YtbameklegpgkfaaDoorX12
import Derived.Test.YtbameklegpgkfaaDoorX2
set_option linter.unusedSimpArgs false
set_option linter.unusedVariables false
set_option linter.defProp false
namespace Go.Proofs.YtbameklegpgkfaaDoor
open Go Go.Vm
set_option maxHeartbeats 1000000 in
theorem implFill_con (xa:ByteArray) (xl w:List (ByteArray×Int×Int)) (rest:List (ByteArray×List (ByteArray×Int×Int))) (hxa:xa.size≤9223372036854775807) (hxl:xl.length≤1048576) (hxs:∀t∈xl,t.1.size≤9223372036854775807) (hwl:w.length≤1048576) (hws:∀t∈w,t.1.size≤9223372036854775807) (hrl:rest.length≤1048575) (hrz:∀x∈rest,x.1.size≤9223372036854775807∧x.2.length≤1048576∧∀t∈x.2,t.1.size≤9223372036854775807):Con Tryd.prog 50 [.agg [.str xa,.sl (xl.map (fun t:ByteArray×Int×Int=>V.agg [V.str t.1,V.int .i64 t.2.1,V.int .i64 t.2.2]))],.sl (w.map (fun t:ByteArray×Int×Int=>V.agg [V.str t.1,V.int .i64 t.2.1,V.int .i64 t.2.2])),.sl (rest.map (fun t:ByteArray×List (ByteArray×Int×Int)=>V.agg [V.str t.1,V.sl (t.2.map (fun t:ByteArray×Int×Int=>V.agg [V.str t.1,V.int .i64 t.2.1,V.int .i64 t.2.2]))]))] [] (.tup [.agg [.str (orS (fillB xa xl w rest) xa),.ref 0],.ref 1,.bool (fillB xa xl w rest)]) [.arr ((orN (fillB xa xl w rest) (fillX xl w rest)).map (fun t:ByteArray×Int×Int=>V.agg [V.str t.1,V.int .i64 t.2.1,V.int .i64 t.2.2])) .flat,.arr ((orN (fillB xa xl w rest) (fillR xl w rest)).map (fun t:ByteArray×List (ByteArray×Int×Int)=>V.agg [V.str t.1,V.sl (t.2.map (fun t:ByteArray×Int×Int=>V.agg [V.str t.1,V.int .i64 t.2.1,V.int .i64 t.2.2]))])) .deep]:=by
 refine v_con [.cell 6 65,.tmp 7,.tmp 8] [] Tryd.func50 rfl rfl rfl (by simp [Tryd.ntmps50]) ?_
 intro Q0 n0 r0
 simp only [Tryd.ntmps50,envFrom,Nat.reduceAdd]
 have T:=Tys.mk (And.intro Ty.t3 (And.intro Ty.t4 (And.intro Ty.t9 (And.intro Ty.t63 (And.intro Ty.t65 (And.intro Ty.t66 Ty.t93))))))
 have F:=Fc.mk True.intro
 refine v_seqR [1,2,3,6] ?_;intro K1 k1;refine zq34 ⟨?_⟩;refine zq1 ⟨?_⟩;refine k1 _ ?_;refine zk ⟨?_⟩;refine v_seq ?_;intro Q2 n2 e2 r2;refine v_seqR [1,2,3,6,22] ?_;intro K3 k3;refine zLoad ⟨?_⟩;refine zc (isLoad_con xa xl hxa hxl hxs) ⟨?_⟩;refine zq18 ⟨?_⟩;refine zgc (areThings_con w hwl hws) ⟨?_⟩;refine zq12 ⟨?_⟩;refine zq51 ⟨?_⟩;refine zgMove ⟨?_⟩;refine zgc (areOthers_con xa xl rest (by omega) hrz) ⟨?_⟩;refine zq12 ⟨?_⟩;refine k3 _ ?_;refine zk ⟨?_⟩;refine v_condS _ rfl ?_ ?_
 ·intro hc0
  have hG:(fillG xa xl w rest)=false:=by
   rw [fillG]
   cases q1:ldChk [(xa,xl)] rest<;>cases q2:nameB xa<;>cases q3:thsB xl<;>cases q5:thsB w<;>by_cases q4:(rest.length:Int)≤6<;>simp [q1,q2,q3,q4,q5] at hc0⊢<;>(try omega)
  have hB:(fillB xa xl w rest)=false:=by rw [fillB,hG];rfl
  refine v_seq ?_;intro Q5 n5 e5 r5;refine v_region ?_;intro K6 k6;refine zq45 ⟨?_⟩;refine k6 _ ?_
  apply n5
  ·apply weak_trans (weak_keep [6,7,8] _)
   simp only [keep_mk,keepE_nil,keepE_cons,look_cons,look_nil,Nat.reduceEqDiff,reduceIte]
   exact weak_fd 5 [] rfl
  try simp only [atSlot_cons,atSlot_nil,Nat.reduceEqDiff,reduceIte,List.set_cons_zero,List.set_cons_succ]
  refine v_ret ?_;refine r2 _ ?_;refine r0 _ ?_;refine zf ⟨?_⟩
  simp only [zE,zL,zO,zN,aStepM,optable,set_some,Nat.reduceEqDiff,reduceIte,Nat.reduceLT,implies_true,forall_const,reduceCtorEq,V.ofValue,V.ofScalar,V.un,V.gd,aLoad,row_mk,Blk.row,PartOK,Go.Vm.part,V.cells,V.noSl,V.noRef,Nat.reduceAdd,Nat.reduceLeDiff,Nat.reduceMul,Tryd.underlying9,Ty.c9,Ty.a9,Tryd.underlying63,Ty.c63,Ty.a63,Tryd.underlying65,Ty.c65,Ty.a65]
  simp only [hB,orS,orN_f,Bool.false_eq_true,if_false,List.map_nil]
  exact ret_all rfl (by first | decide | simp [newIds,refsOf,refs2,refs1]) (by simp) rfl (by simp [newIds,refsOf,refs2,refs1]) (by simp [Blk.kindIs,fillK_fd]) rfl
 ·intro hc0
  have hG:(fillG xa xl w rest)=true:=by
   rw [fillG]
   cases q1:ldChk [(xa,xl)] rest<;>cases q2:nameB xa<;>cases q3:thsB xl<;>cases q5:thsB w<;>by_cases q4:(rest.length:Int)≤6<;>simp [q1,q2,q3,q4,q5] at hc0⊢<;>(try omega)
  refine v_skip ?_;refine n2 _ _ (weak_keep [1,2,3,6] _) ?_;refine zk ⟨?_⟩;refine v_seqR [6,7,8] ?_;intro K7 k7;refine zq33 ⟨?_⟩;refine zc (fillFrom_con xa xl w rest hG hrz) ⟨?_⟩;refine zq7 ⟨?_⟩;refine zExtract ⟨?_⟩;refine zStore ⟨?_⟩;refine zq1 ⟨?_⟩;refine k7 _ ?_;refine zk ⟨?_⟩;refine v_ret ?_;refine r0 _ ?_;refine zf ⟨?_⟩
  simp only [zE,zL,zO,zN,aStepM,optable,set_some,Nat.reduceEqDiff,reduceIte,Nat.reduceLT,implies_true,forall_const,reduceCtorEq,V.ofValue,V.ofScalar,V.un,V.gd,aLoad,row_mk,Blk.row,PartOK,Go.Vm.part,V.cells,V.noSl,V.noRef,Nat.reduceAdd,Nat.reduceLeDiff,Nat.reduceMul,Tryd.underlying9,Ty.c9,Ty.a9,Tryd.underlying63,Ty.c63,Ty.a63,Tryd.underlying65,Ty.c65,Ty.a65]
  exact ret_all rfl (by first | decide | simp [newIds,refsOf,refs2,refs1]) (by simp) rfl (by simp [newIds,refsOf,refs2,refs1]) (by simp [Blk.kindIs,fillK_fd]) rfl
set_option maxHeartbeats 1000000 in
theorem implCan_con (xa:ByteArray) (xl w:List (ByteArray×Int×Int)) (rest:List (ByteArray×List (ByteArray×Int×Int))) (hxa:xa.size≤9223372036854775807) (hxl:xl.length≤1048576) (hxs:∀t∈xl,t.1.size≤9223372036854775807) (hwl:w.length≤1048576) (hws:∀t∈w,t.1.size≤9223372036854775807) (hrl:rest.length≤1048575) (hrz:∀x∈rest,x.1.size≤9223372036854775807∧x.2.length≤1048576∧∀t∈x.2,t.1.size≤9223372036854775807):Con Tryd.prog 52 [.agg [.str xa,.sl (xl.map (fun t:ByteArray×Int×Int=>V.agg [V.str t.1,V.int .i64 t.2.1,V.int .i64 t.2.2]))],.sl (w.map (fun t:ByteArray×Int×Int=>V.agg [V.str t.1,V.int .i64 t.2.1,V.int .i64 t.2.2])),.sl (rest.map (fun t:ByteArray×List (ByteArray×Int×Int)=>V.agg [V.str t.1,V.sl (t.2.map (fun t:ByteArray×Int×Int=>V.agg [V.str t.1,V.int .i64 t.2.1,V.int .i64 t.2.2]))]))] [] (.tup [.bool (fillB xa xl w rest),.bool (fillG xa xl w rest)]) []:=by
 refine v_con [.tmp 6,.tmp 7] [] Tryd.func52 rfl rfl rfl (by simp [Tryd.ntmps52]) ?_
 intro Q0 n0 r0
 simp only [Tryd.ntmps52,envFrom,Nat.reduceAdd]
 have T:=Tys.mk (And.intro Ty.t3 (And.intro Ty.t4 (And.intro Ty.t9 (And.intro Ty.t63 (And.intro Ty.t65 (And.intro Ty.t66 Ty.t93))))))
 have F:=Fc.mk True.intro
 refine v_seqR [1,2,3] ?_;intro K1 k1;refine zq43 ⟨?_⟩;refine k1 _ ?_;refine zk ⟨?_⟩;refine v_seq ?_;intro Q2 n2 e2 r2;refine v_seqR [1,2,3,24] ?_;intro K3 k3;refine zLoad ⟨?_⟩;refine zc (isLoad_con xa xl hxa hxl hxs) ⟨?_⟩;refine zq18 ⟨?_⟩;refine zgc (areThings_con w hwl hws) ⟨?_⟩;refine zq12 ⟨?_⟩;refine zq51 ⟨?_⟩;refine zgMove ⟨?_⟩;refine zgc (areOthers_con xa xl rest (by omega) hrz) ⟨?_⟩;refine zq12 ⟨?_⟩;refine k3 _ ?_;refine zk ⟨?_⟩;refine v_condS _ rfl ?_ ?_
 ·intro hc0
  have hG:(fillG xa xl w rest)=false:=by
   rw [fillG]
   cases q1:ldChk [(xa,xl)] rest<;>cases q2:nameB xa<;>cases q3:thsB xl<;>cases q5:thsB w<;>by_cases q4:(rest.length:Int)≤6<;>simp [q1,q2,q3,q4,q5] at hc0⊢<;>(try omega)
  have hB:(fillB xa xl w rest)=false:=by rw [fillB,hG];rfl
  refine v_seqR [6,7] ?_;intro K5 k5;refine zq1 ⟨?_⟩;refine k5 _ ?_;refine zk ⟨?_⟩;refine v_ret ?_;refine r2 _ ?_;refine r0 _ ?_;refine zf ⟨?_⟩
  exact ret_pure rfl (by rw [hB,hG]) (.inl rfl)
 ·intro hc0
  have hG:(fillG xa xl w rest)=true:=by
   rw [fillG]
   cases q1:ldChk [(xa,xl)] rest<;>cases q2:nameB xa<;>cases q3:thsB xl<;>cases q5:thsB w<;>by_cases q4:(rest.length:Int)≤6<;>simp [q1,q2,q3,q4,q5] at hc0⊢<;>(try omega)
  refine v_skip ?_;refine n2 _ _ (weak_keep [1,2,3] _) ?_;refine zk ⟨?_⟩;refine v_seqR [10] ?_;intro K6 k6;refine zq33 ⟨?_⟩;refine zc (fillFrom_con xa xl w rest hG hrz) ⟨?_⟩;refine zq48 ⟨?_⟩;refine k6 _ ?_;refine zk ⟨?_⟩;refine v_seqR [6,7] ?_;intro K7 k7;refine zq41 ⟨?_⟩;refine k7 _ ?_;refine zk ⟨?_⟩;refine v_ret ?_;refine r0 _ ?_;refine zf ⟨?_⟩
  exact ret_pure rfl (by rw [hG]) (.inl rfl)
set_option maxHeartbeats 1000000 in
theorem specCan_con (xa:ByteArray) (xl w:List (ByteArray×Int×Int)) (rest:List (ByteArray×List (ByteArray×Int×Int))) (hxa:xa.size≤9223372036854775807) (hxl:xl.length≤1048576) (hxs:∀t∈xl,t.1.size≤9223372036854775807) (hwl:w.length≤1048576) (hws:∀t∈w,t.1.size≤9223372036854775807) (hrl:rest.length≤1048575) (hrz:∀x∈rest,x.1.size≤9223372036854775807∧x.2.length≤1048576∧∀t∈x.2,t.1.size≤9223372036854775807):Con Tryd.prog 53 [.agg [.str xa,.sl (xl.map (fun t:ByteArray×Int×Int=>V.agg [V.str t.1,V.int .i64 t.2.1,V.int .i64 t.2.2]))],.sl (w.map (fun t:ByteArray×Int×Int=>V.agg [V.str t.1,V.int .i64 t.2.1,V.int .i64 t.2.2])),.sl (rest.map (fun t:ByteArray×List (ByteArray×Int×Int)=>V.agg [V.str t.1,V.sl (t.2.map (fun t:ByteArray×Int×Int=>V.agg [V.str t.1,V.int .i64 t.2.1,V.int .i64 t.2.2]))]))] [] (.tup [.bool (fillB xa xl w rest),.bool (fillG xa xl w rest)]) []:=by
 refine v_con [.tmp 6,.tmp 7] [] Tryd.func53 rfl rfl rfl (by simp [Tryd.ntmps53]) ?_
 intro Q0 n0 r0
 simp only [Tryd.ntmps53,envFrom,Nat.reduceAdd]
 have T:=Tys.mk (And.intro Ty.t3 (And.intro Ty.t4 (And.intro Ty.t9 (And.intro Ty.t63 (And.intro Ty.t65 (And.intro Ty.t66 Ty.t93))))))
 have F:=Fc.mk True.intro
 rcases guard3 w rest with hw1 | ⟨hw1,hd6⟩ | ⟨hw1,hd6⟩
 ·skip
  have hG0:(fillG xa xl w rest)=false:=by rw [fillG];simp [hw1]
  refine v_seqR [1,2,3] ?_;intro K1 k1
  have F:=Fc.mk hw1
  refine zq43 ⟨?_⟩;refine k1 _ ?_;refine zk ⟨?_⟩;refine v_seq ?_;intro Q2 n2 e2 r2;refine v_seqR [1,2,3,26] ?_;intro K3 k3;refine zMove ⟨?_⟩;refine zc (eqGood_con w hwl hws) ⟨?_⟩;refine zq50 ⟨?_⟩;refine zq51 ⟨?_⟩;refine zgBuildSlice ⟨?_⟩;refine zgMove ⟨?_⟩;refine zgAppend ⟨?_⟩;refine zgc (eqLoads_con ((xa,xl)::rest) (by rw [List.length_cons];omega) (fun x hx=>by rcases List.mem_cons.1 hx with rfl | hx;exact ⟨hxa,hxl,hxs⟩;exact hrz x hx) 7) ⟨?_⟩;refine zq12 ⟨?_⟩;refine k3 _ ?_;refine zk ⟨?_⟩;refine v_cond _ rfl ?_ ?_
  ·intro hc0
   try simp only [zC,reduceCtorEq] at hc0
   have hG:(fillG xa xl w rest)=false:=by
    first
    |exact hG0
    |(
     have h1:=ldChk_one xa xl rest
     rw [fillG]
     cases q1:ldChk [(xa,xl)] rest<;>cases q2:nameB xa<;>cases q3:thsB xl<;>by_cases q4:(rest.length:Int)≤6<;>simp [q1,q2,q3,q4,hw1,h1] at hc0⊢<;>(try omega))
   have hB:(fillB xa xl w rest)=false:=by rw [fillB,hG];rfl
   refine v_seqR [6,7] ?_;intro K5 k5;refine zq1 ⟨?_⟩;refine k5 _ ?_;refine zk ⟨?_⟩;refine v_ret ?_;refine r2 _ ?_;refine r0 _ ?_;refine zf ⟨?_⟩
   exact ret_pure rfl (by rw [hB,hG]) (.inl rfl)
  ·intro hc0
   exfalso;simp at hc0
 ·skip
  have hG0:(fillG xa xl w rest)=false:=by rw [fillG];simp at hd6;simp;omega
  refine v_seqR [1,2,3] ?_;intro K6 k6
  have F:=Fc.mk (And.intro hw1 hd6)
  refine zq43 ⟨?_⟩;refine k6 _ ?_;refine zk ⟨?_⟩;refine v_seq ?_;intro Q7 n7 e7 r7;refine v_seqR [1,2,3,26] ?_;intro K8 k8;refine zMove ⟨?_⟩;refine zc (eqGood_con w hwl hws) ⟨?_⟩;refine zq50 ⟨?_⟩;refine zMove ⟨?_⟩;refine v_pass 20 8 false rfl (show 20 < 36 by decide) rfl ?_ ?_
  ·first | rfl | (simp only [zV,guardV,Nat.reduceEqDiff,reduceIte];done)
  simp only [zW,set_some,Nat.reduceEqDiff,reduceIte]
  refine v_pass 21 8 false rfl (show 21 < 36 by decide) rfl ?_ ?_
  ·first | rfl | (simp only [zV,guardV,Nat.reduceEqDiff,reduceIte];done)
  simp only [zW,set_some,Nat.reduceEqDiff,reduceIte]
  refine v_pass 22 8 false rfl (show 22 < 36 by decide) rfl ?_ ?_
  ·first | rfl | (simp only [zV,guardV,Nat.reduceEqDiff,reduceIte];done)
  simp only [zW,set_some,Nat.reduceEqDiff,reduceIte]
  refine v_pass 23 8 false rfl (show 23 < 36 by decide) rfl ?_ ?_
  ·first | rfl | (simp only [zV,guardV,Nat.reduceEqDiff,reduceIte];done)
  simp only [zW,set_some,Nat.reduceEqDiff,reduceIte]
  refine v_pass 24 8 false rfl (show 24 < 36 by decide) rfl ?_ ?_
  ·first | rfl | (simp only [zV,guardV,Nat.reduceEqDiff,reduceIte];done)
  simp only [zW,set_some,Nat.reduceEqDiff,reduceIte]
  refine v_pass 25 8 false rfl (show 25 < 36 by decide) rfl ?_ ?_
  ·first | rfl | (simp only [zV,guardV,Nat.reduceEqDiff,reduceIte];done)
  simp only [zW,set_some,Nat.reduceEqDiff,reduceIte]
  refine zPick ⟨?_⟩;refine k8 _ ?_;refine zk ⟨?_⟩;refine v_cond _ rfl ?_ ?_
  ·intro hc0
   try simp only [zC,reduceCtorEq] at hc0
   have hG:(fillG xa xl w rest)=false:=by
    first
    |exact hG0
    |(
     have h1:=ldChk_one xa xl rest
     rw [fillG]
     cases q1:ldChk [(xa,xl)] rest<;>cases q2:nameB xa<;>cases q3:thsB xl<;>by_cases q4:(rest.length:Int)≤6<;>simp [q1,q2,q3,q4,hw1,h1] at hc0⊢<;>(try omega))
   have hB:(fillB xa xl w rest)=false:=by rw [fillB,hG];rfl
   refine v_seqR [6,7] ?_;intro K10 k10;refine zq1 ⟨?_⟩;refine k10 _ ?_;refine zk ⟨?_⟩;refine v_ret ?_;refine r7 _ ?_;refine r0 _ ?_;refine zf ⟨?_⟩
   exact ret_pure rfl (by rw [hB,hG]) (.inl rfl)
  ·intro hc0
   exfalso;simp at hc0
 ·skip
  have hw1b:=hw1
  refine v_seqR [1,2,3] ?_;intro K11 k11
  have F:=Fc.mk (And.intro hw1 hd6)
  refine zq43 ⟨?_⟩;refine k11 _ ?_;refine zk ⟨?_⟩;refine v_seq ?_;intro Q12 n12 e12 r12;refine v_seqR [1,2,3,26] ?_;intro K13 k13;refine zMove ⟨?_⟩;refine zc (eqGood_con w hwl hws) ⟨?_⟩;refine zq50 ⟨?_⟩;refine zMove ⟨?_⟩;refine v_opT 8 false rfl (by first | rfl | (simp only [zV,guardV,Nat.reduceEqDiff,reduceIte];done)) (show 20 < 36 by decide) ?_;intro K k
  simp only [zE,zL,zO,zN,aStepM,optable,set_some,Nat.reduceEqDiff,reduceIte,Nat.reduceLT,implies_true,forall_const,reduceCtorEq,V.ofValue,V.ofScalar,V.un,V.gd,aExec,aop,aLoad,row_mk,Blk.row,PartOK,Go.Vm.part,V.cells,V.noSl,V.noRef,Nat.reduceAdd,Nat.reduceLeDiff,Nat.reduceMul,Tryd.underlying9,Ty.c9,Ty.a9,Tryd.underlying63,Ty.c63,Ty.a63,Tryd.underlying65,Ty.c65,Ty.a65,hw1,hd6]
  repeat (refine And.intro (by first | omega | (intros;omega) | (intros;simp_all;done) | (intros;simp_all;omega)) ?_)
  refine k _ ?_;clear k K;refine v_opT 8 false rfl (by first | rfl | (simp only [zV,guardV,Nat.reduceEqDiff,reduceIte];done)) (show 21 < 36 by decide) ?_;intro K k
  simp only [zE,zO,zN,aStepM,optable,set_some,Nat.reduceEqDiff,reduceIte,Nat.reduceLT,implies_true,forall_const,reduceCtorEq,V.ofValue,V.ofScalar,V.un,V.gd,aExec,aop,litElems,rng0,rng1,rng2,rng3,rng4,rng5,rng6,rng7,rng8,rng9,rng10,rng11,rng12,List.map_cons,List.map_nil,List.all_cons,List.all_nil,V.isVal,V.cells,content,contentL,kindAll,V.noRef,V.noSl,List.mem_cons,List.not_mem_nil,or_false,forall_eq_or_imp,forall_eq,if_true,Option.isSome_some,List.length_cons,List.length_nil,Nat.reduceAdd,Nat.reduceLeDiff,Nat.reduceMul,Tryd.underlying65,Ty.c65,Ty.a65,Ty.z65,Tryd.underlying66,Ty.c66,Ty.a66,Ty.z66,hw1,hd6]
  repeat (refine And.intro (by first | omega | (intros;omega) | (intros;simp_all;done) | (intros;simp_all;omega)) ?_)
  refine k _ ?_;clear k K;refine v_opT 8 false rfl (by first | rfl | (simp only [zV,guardV,Nat.reduceEqDiff,reduceIte];done)) (show 22 < 36 by decide) ?_;intro K k
  simp only [zE,aStepM,optable,set_some,Nat.reduceEqDiff,reduceIte,Nat.reduceLT,implies_true,forall_const,reduceCtorEq,V.ofValue,V.ofScalar,V.un,V.gd,aExec,aop,hw1,hd6]
  repeat (refine And.intro (by first | omega | (intros;omega) | (intros;simp_all;done) | (intros;simp_all;omega)) ?_)
  refine k _ ?_;clear k K;refine v_opT 8 false rfl (by first | rfl | (simp only [zV,guardV,Nat.reduceEqDiff,reduceIte];done)) (show 23 < 36 by decide) ?_;intro K k
  simp only [zE,zL,zO,zN,aStepM,optable,set_some,Nat.reduceEqDiff,reduceIte,Nat.reduceLT,implies_true,forall_const,reduceCtorEq,V.ofValue,V.ofScalar,V.un,V.gd,aExec,aop,fillK_thin,beq_self_eq_true,List.nodup_cons,List.mem_singleton,forall_eq',List.size_toArray,List.getD_eq_getElem?_getD,Array.getD_eq_getD_getElem?,Option.getD_some,aAppend,destOf,srcOf,takeElems,takeV,takeCell,takeCells,row_mk,Blk.row,killAll,V.isSub,V.noSl,Value.cells,Option.toList,List.forall_mem_map,List.length_map,List.all_cons,List.all_nil,List.isEmpty_nil,List.isEmpty_cons,List.not_mem_nil,List.nodup_nil,join_ff,join_ft,join_fv,join_d,join_s,fillK_join0,fillK_join,List.mem_cons,or_false,forall_eq_or_imp,forall_eq,List.set_cons_zero,List.set_cons_succ,List.length_append,Go.Vm.V.cells,Nat.reduceAdd,Nat.reduceLeDiff,Nat.reduceMul,Tryd.underlying65,Ty.c65,Ty.a65,Ty.z65,Ty.b65,Ty.s65,Tryd.underlying66,Ty.c66,Ty.a66,Ty.z66,Ty.b66,Ty.s66,hw1,hd6]
  repeat (refine And.intro (by first | omega | (intros;omega) | (intros;simp_all;done) | (intros;simp_all;omega)) ?_)
  refine k _ ?_;clear k K;refine v_opT 8 false rfl (by first | rfl | (simp only [zV,guardV,Nat.reduceEqDiff,reduceIte];done)) (show 24 < 36 by decide) ?_;intro K k
  simp only [zE,zM,aStepM,optable,set_some,Nat.reduceEqDiff,reduceIte,Nat.reduceLT,implies_true,forall_const,reduceCtorEq,V.ofValue,V.ofScalar,V.un,V.gd,aExec,lentIds,lendOf,Tryd.underlying3,Ty.c3,Ty.a3,Ty.b3,Ty.s3,Tryd.underlying4,Ty.c4,Ty.a4,Ty.b4,Ty.s4,Tryd.underlying65,Ty.c65,Ty.a65,Ty.b65,Ty.s65,Tryd.underlying66,Ty.c66,Ty.a66,Ty.b66,Ty.s66]
  repeat (refine And.intro (by first | rfl | (intros;simp_all;done)) ?_)
  refine aCall_new (eqLoads_con ((xa,xl)::rest) (by rw [List.length_cons];omega) (fun x hx=>by rcases List.mem_cons.1 hx with rfl | hx;exact ⟨hxa,hxl,hxs⟩;exact hrz x hx) 7) (by first | rfl | (simp only [toArgs,toArg,toCell,toCells,idx,row_mk,List.getElem?_cons_zero,List.getElem?_cons_succ,Option.bind_some,Option.map_some,Blk.row,fillK_mix,flat_mix,deep_mix,thin_mix,shal_mix,cond_true,List.map_take];done) | (simp [toArgs,toArg,toCell,toCells,idx,row_mk,Blk.row,fillK_mix,flat_mix,deep_mix,thin_mix,shal_mix,Nat.beq_refl];done)) (by first | exact .inl ⟨rfl,by simp [Blk.kindIs,fillK_fd]⟩ | exact .inr (by simp [V.cold])) ?_;refine k _ ?_;clear k K
  simp only [zY,zW,set_some,Nat.reduceEqDiff,reduceIte,V.ren,V.renL,rho,Nat.reduceAdd]
  refine v_opT 8 false rfl (by first | rfl | (simp only [zV,guardV,Nat.reduceEqDiff,reduceIte];done)) (show 25 < 36 by decide) ?_;intro K k
  simp only [zE,aStepM,optable,set_some,Nat.reduceEqDiff,reduceIte,Nat.reduceLT,implies_true,forall_const,reduceCtorEq,V.ofValue,V.ofScalar,V.un,V.gd,aExec,aop,aUn,Tryd.underlying4,hw1,hd6]
  repeat (refine And.intro (by first | omega | (intros;omega) | (intros;simp_all;done) | (intros;simp_all;omega)) ?_)
  refine k _ ?_;clear k K;refine zPick ⟨?_⟩;refine k13 _ ?_;refine zk ⟨?_⟩;refine v_condS _ rfl ?_ ?_
  ·intro hc0
   have hG:(fillG xa xl w rest)=false:=by
    first
    |exact hG0
    |(
     have h1:=ldChk_one xa xl rest
     rw [fillG]
     cases q1:ldChk [(xa,xl)] rest<;>cases q2:nameB xa<;>cases q3:thsB xl<;>by_cases q4:(rest.length:Int)≤6<;>simp [q1,q2,q3,q4,hw1,h1] at hc0⊢<;>(try omega))
   have hB:(fillB xa xl w rest)=false:=by rw [fillB,hG];rfl
   refine v_seqR [6,7] ?_;intro K15 k15;refine zq1 ⟨?_⟩;refine k15 _ ?_;refine zk ⟨?_⟩;refine v_ret ?_;refine r12 _ ?_;refine r0 _ ?_;refine zf ⟨?_⟩
   exact ret_pure rfl (by rw [hB,hG]) (.inl rfl)
  ·intro hc0
   have hG:(fillG xa xl w rest)=true:=by
    have h1:=ldChk_one xa xl rest
    rw [fillG]
    cases q1:ldChk [(xa,xl)] rest<;>cases q2:nameB xa<;>cases q3:thsB xl<;>by_cases q4:(rest.length:Int)≤6<;>simp [q1,q2,q3,q4,hw1,h1] at hc0⊢<;>(try omega)
   refine v_skip ?_;refine n12 _ _ (weak_keep [1,2,3] _) ?_;refine zk ⟨?_⟩;refine v_seqR [10] ?_;intro K16 k16;refine zq33 ⟨?_⟩;refine zc (specFill_con xa xl w rest hxa hxl hxs hwl hws hrl hrz) ⟨?_⟩;refine zq48 ⟨?_⟩;refine k16 _ ?_;refine zk ⟨?_⟩;refine v_seqR [6,7] ?_;intro K17 k17;refine zq41 ⟨?_⟩;refine k17 _ ?_;refine zk ⟨?_⟩;refine v_ret ?_;refine r0 _ ?_;refine zf ⟨?_⟩
   exact ret_pure rfl (by rw [hG]) (.inl rfl)
theorem fill_imp (xa:ByteArray) (xl w:List (ByteArray×Int×Int)) (rest:List (ByteArray×List (ByteArray×Int×Int))):(fillG xa xl w rest && fillB xa xl w rest)=fillB xa xl w rest∧(bif fillG xa xl w rest then fillB xa xl w rest else false)=fillB xa xl w rest:=by
  cases h:fillG xa xl w rest with
  | true=>exact ⟨rfl,rfl⟩
  | false=>rw [fillB,h];exact ⟨rfl,rfl⟩
theorem fill_cnt {xa:ByteArray} {xl w:List (ByteArray×Int×Int)} {rest:List (ByteArray×List (ByteArray×Int×Int))} (h:fillB xa xl w rest=true) {nm:ByteArray} (hn:tnB nm=true) :
    cntB ((xa,xl)::rest) nm=true∧cntB ((xa,fillX xl w rest)::fillR xl w rest) nm=true∧cntV ((xa,fillX xl w rest)::fillR xl w rest) nm=cntV ((xa,xl)::rest) nm:=by
  obtain ⟨h1,h2,h3,h4,h5⟩:=fill_law h
  have g:=fillG_facts (by rw [fillB,Bool.and_eq_true] at h;exact h.1)
  have h6:=g.six
  have c1:cntB ((xa,xl)::rest) nm=true:=by
    rw [cntB,hn,g.ld,decide_eq_true (show ((((xa,xl)::rest).length:Nat):Int)≤7 by rw [List.length_cons];omega)];rfl
  have c2:cntB ((xa,fillX xl w rest)::fillR xl w rest) nm=true:=by
    rw [cntB,hn,h4,decide_eq_true (show ((((xa,fillX xl w rest)::fillR xl w rest).length:Nat):Int)≤7 by rw [List.length_cons];omega)];rfl
  exact ⟨c1,c2,by rw [cntV,cntV,c1,c2,if_pos rfl,if_pos rfl,h5]⟩
theorem fill_miss {xa:ByteArray} {xl w:List (ByteArray×Int×Int)} {rest:List (ByteArray×List (ByteArray×Int×Int))} (h:fillB xa xl w rest=true):(thsB w && thsB (fillX xl w rest))=true∧missR w (fillX xl w rest)=[]:=by
  obtain ⟨h1,h2,h3,h4,h5⟩:=fill_law h
  have g:=fillG_facts (by rw [fillB,Bool.and_eq_true] at h;exact h.1)
  have e:(thsB w && thsB (fillX xl w rest))=true:=by rw [(ths_iff _).2 g.w,(ths_iff _).2 h1.x];rfl
  exact ⟨e,by rw [missR,if_pos e,h3]⟩
theorem fill_sz {xa:ByteArray} {xl w:List (ByteArray×Int×Int)} {rest:List (ByteArray×List (ByteArray×Int×Int))} (h:fillB xa xl w rest=true):((fillX xl w rest).length≤12∧∀t∈fillX xl w rest,t.1.size≤9223372036854775807)∧(fillR xl w rest).length≤6∧∀x∈fillR xl w rest,x.1.size≤9223372036854775807∧x.2.length≤1048576∧∀t∈x.2,t.1.size≤9223372036854775807:=by
  obtain ⟨h1,h2,h3,h4,h5⟩:=fill_law h
  have g:=fillG_facts (by rw [fillB,Bool.and_eq_true] at h;exact h.1)
  refine ⟨⟨h1.x.len,th_sz h1.x⟩,by have:=g.six;omega,fun x hx=> ?_⟩
  obtain ⟨a,b⟩:=h1.ok x hx
  have:=nm_size a
  have:=b.len
  exact ⟨by omega,by omega,th_sz b⟩
theorem fill_len (xa:ByteArray) (xl w:List (ByteArray×Int×Int)) (rest:List (ByteArray×List (ByteArray×Int×Int))):(orN (fillB xa xl w rest) (fillX xl w rest)).length≤12∧(orN (fillB xa xl w rest) (fillR xl w rest)).length≤6∧∀x∈orN (fillB xa xl w rest) (fillR xl w rest),x.2.length≤1048576:=by
  cases h:fillB xa xl w rest with
  | false=>simp [orN]
  | true=>
    obtain ⟨⟨a,_⟩,b,c⟩:=fill_sz h
    exact ⟨by simpa [orN] using a,by simpa [orN] using b,fun x hx=>(c x (by simpa [orN] using hx)).2.1⟩
theorem chk_law {a:ByteArray} {l:List (ByteArray×Int×Int)} {s:ByteArray} {day:Int} (h:chkB a l s day=true):dueB a (chkL l s day) day 1=true∧inS s (dueL (chkL l s day) day 1)=false∧(chkL l s day).length=l.length∧(chkL l s day).length≤12∧a.size≤6∧∀t∈chkL l s day,t.1.size≤9223372036854775807:=by
  obtain ⟨h1,h2,h3,_⟩:=chk_facts h
  obtain ⟨k1,k2⟩:=chk_ok h
  refine ⟨?_,(by rw [inS,List.any_eq_false];intro y hy q;have e:=of_decide_eq_true q;subst e;exact due_not k2 hy),chkL_len l s day,k1.len,nm_size h1,th_sz k1⟩
  unfold dueB inD
  rw [h1,(ths_iff _).2 k1,decide_eq_true h3.1,decide_eq_true h3.2];rfl
end Go.Proofs.YtbameklegpgkfaaDoor
