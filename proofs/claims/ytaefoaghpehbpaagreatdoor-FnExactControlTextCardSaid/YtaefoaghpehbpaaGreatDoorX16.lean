/- What functions compute. No condition. -/
import Derived.Test.YtaefoaghpehbpaaGreatDoorUz
import Derived.Test.YtaefoaghpehbpaaGreatDoorUty
import Derived.Test.YtaefoaghpehbpaaGreatDoorUmG
import Derived.Test.YtaefoaghpehbpaaGreatDoorX11
import Derived.Test.YtaefoaghpehbpaaGreatDoorX13
import Derived.Test.YtaefoaghpehbpaaGreatDoorX2
import Derived.Test.YtaefoaghpehbpaaGreatDoorX5
import Derived.Test.YtaefoaghpehbpaaGreatDoorX15
set_option linter.unusedSimpArgs false
set_option linter.unusedVariables false
set_option linter.defProp false
namespace Go.Proofs.YtaefoaghpehbpaaGreatDoor
open Go Go.Vm
set_option maxHeartbeats 6000000 in
theorem lawControlText_con (nss:Int) (ss:List (Int×Int×Int)) (flc:List (ByteArray×Int×Int×Int×Int)) (inc:List (Int×Int×Bool×List ByteArray)) (wsc:List (Int×List Int)) (hss:ss.length≤9223372036854775807) (hfc:flc.length≤9223372036854775807) (hfsc:∀t∈flc,t.1.size≤9223372036854775807) (hic:inc.length≤9223372036854775807) (hisc:∀t∈inc,t.2.2.2.length≤9223372036854775807∧∀s∈t.2.2.2,s.size≤9223372036854775807) (hwc:wsc.length≤9223372036854775807) (hwsc:∀t∈wsc,t.2.length≤9223372036854775807):Con Tryz.prog 3 [.agg [.int .i64 nss,.sl (ss.map (fun t:Int×Int×Int=>V.agg [V.int .i64 t.1,V.int .i64 t.2.1,V.int .i64 t.2.2]))],.agg [.sl (flc.map (fun t:ByteArray×Int×Int×Int×Int=>V.agg [V.str t.1,V.int .i64 t.2.1,V.int .i64 t.2.2.1,V.int .i64 t.2.2.2.1,V.int .i64 t.2.2.2.2])),.sl (inc.map (fun t:Int×Int×Bool×List ByteArray=>V.agg [V.int .i64 t.1,V.int .i64 t.2.1,V.bool t.2.2.1,V.sl (t.2.2.2.map V.str)])),.sl (wsc.map (fun t:Int×List Int=>V.agg [V.int .i64 t.1,V.sl (t.2.map (V.int .i64))]))]] [] (.bool true) []:=by
 refine v_con [.tmp 4] [] Tryz.func3 rfl rfl rfl (by simp [Tryz.ntmps3]) ?_
 intro Q0 n0 r0
 simp only [Tryz.ntmps3,envFrom,Nat.reduceAdd]
 have T:=Tys.mk (And.intro Ty.t3 (And.intro Ty.t4 (And.intro Ty.t9 (And.intro Ty.t22 (And.intro Ty.t24 (And.intro Ty.t25 (And.intro Ty.t26 (And.intro Ty.t27 (And.intro Ty.t29 (And.intro Ty.t34 (And.intro Ty.t36 (And.intro Ty.t38 (And.intro Ty.t39 (And.intro Ty.t40 (And.intro Ty.t42 (And.intro Ty.t47 (And.intro Ty.t49 (And.intro Ty.t76 (And.intro Ty.t78 (And.intro Ty.t95 (And.intro Ty.t145 (And.intro Ty.t147 (And.intro Ty.t149 (And.intro Ty.t153 Ty.t155))))))))))))))))))))))))
 have F:=Fc.mk True.intro
 refine v_seqR [2,3] ?_;intro K1 k1;refine zq32 ⟨?_⟩;refine k1 _ ?_;refine zk ⟨?_⟩;refine v_seqR [2,3,5] ?_;intro K2 k2;refine zAssign ⟨?_⟩;refine k2 _ ?_;refine zk ⟨?_⟩;refine v_seqR [2,3,5] ?_;intro K3 k3;refine zLoad ⟨?_⟩;refine zMove ⟨?_⟩;refine zc (szTown_con nss ss (1048576:Int) (⟨by omega,by omega⟩:(0:Int)≤1048576∧(1048576:Int)≤1048576) hss) ⟨?_⟩;refine zAssign ⟨?_⟩;refine k3 _ ?_;refine zk ⟨?_⟩;refine v_seq ?_;intro Q4 n4 e4 r4;refine v_seqR [2,3,5,16] ?_;intro K5 k5;refine zq13 ⟨?_⟩;refine k5 _ ?_;refine zk ⟨?_⟩;refine v_condS _ rfl ?_ ?_
 ·intro hc0
  refine v_seqR [4] ?_;intro K7 k7;refine zAssign ⟨?_⟩;refine k7 _ ?_;refine zk ⟨?_⟩;refine v_ret ?_;refine r4 _ ?_;refine r0 _ ?_;refine zf ⟨?_⟩
  exact ret_pure rfl rfl (.inl rfl)
 ·intro hc0
  obtain ⟨bss,q1⟩:=szIf (⟨by omega,by omega⟩:(0:Int)≤1048576∧(1048576:Int)≤1048576).2 hc0
  refine v_skip ?_;refine n4 _ _ (weak_keep [2,3,5] _) ?_;refine zk ⟨?_⟩;refine v_seqR [2,3,5] ?_;intro K8 k8;refine zLoad ⟨?_⟩;refine zMove ⟨?_⟩;refine zc (szControl_con (if (1048576:Int) - (ss.length:Int) < 0 then -1 else (1048576:Int) - (ss.length:Int)) flc inc wsc q1 hfc hfsc hic hisc hwc hwsc) ⟨?_⟩;refine zAssign ⟨?_⟩;refine k8 _ ?_;refine zk ⟨?_⟩;refine v_seq ?_;intro Q9 n9 e9 r9;refine v_seqR [2,3,21] ?_;intro K10 k10;refine zq13 ⟨?_⟩;refine k10 _ ?_;refine zk ⟨?_⟩;refine v_condS _ rfl ?_ ?_
  ·intro hc1
   refine v_seqR [4] ?_;intro K12 k12;refine zAssign ⟨?_⟩;refine k12 _ ?_;refine zk ⟨?_⟩;refine v_ret ?_;refine r9 _ ?_;refine r0 _ ?_;refine zf ⟨?_⟩
   exact ret_pure rfl rfl (.inl rfl)
  ·intro hc1
   obtain ⟨bfc,bic,binc,bwc,bwnc,q2⟩:=szIfC q1.1 q1.2 hc1
   have c1:=toTown_con nss ss bss
   have c2:=toControl_con flc inc wsc bfc bic binc bwc bwnc
   have c3:=specCText_con nss ss flc inc wsc bss bfc hfsc bic binc (fun x h=>(hisc x h).2) bwc bwnc
   have c4:=implCText_con nss ss flc inc wsc bss bfc hfsc bic binc (fun x h=>(hisc x h).2) bwc bwnc
   have c5:=eqTown_con nss ss bss
   have c6:=eqControl_con flc inc wsc bfc bic binc bwc bwnc
   generalize ss.map (fun t:Int×Int×Int=>V.agg [V.int .i64 t.1,V.int .i64 t.2.1,V.int .i64 t.2.2])=L1 at c1 c2 c3 c4 c5 c6⊢
   generalize flc.map (fun t:ByteArray×Int×Int×Int×Int=>V.agg [V.str t.1,V.int .i64 t.2.1,V.int .i64 t.2.2.1,V.int .i64 t.2.2.2.1,V.int .i64 t.2.2.2.2])=L2 at c1 c2 c3 c4 c5 c6⊢
   generalize inc.map (fun t:Int×Int×Bool×List ByteArray=>V.agg [V.int .i64 t.1,V.int .i64 t.2.1,V.bool t.2.2.1,V.sl (t.2.2.2.map V.str)])=L3 at c1 c2 c3 c4 c5 c6⊢
   generalize wsc.map (fun t:Int×List Int=>V.agg [V.int .i64 t.1,V.sl (t.2.map (V.int .i64))])=L4 at c1 c2 c3 c4 c5 c6⊢
   refine v_skip ?_;refine n9 _ _ (weak_keep [2,3] _) ?_;refine zk ⟨?_⟩;refine v_seq ?_;intro Q13 n13 e13 r13;refine v_draw (by kernel_rfl) ?_;intro K14 q14 k14
   show aAny _ _ _ _ 10 (Array.replicate 10 false) _
   refine zdLoadX q14 true 0 23 ?_;refine zdLoadX q14 true 2 25 ?_;refine zoc 1 (c1) ⟨?_⟩;refine zoc 3 (c2) ⟨?_⟩;refine zoc 4 (c3) ⟨?_⟩;refine zdMove q14 true 5 22 ?_;refine zdExtract q14 true 6 28 ?_;refine zdExtract q14 true 7 29 ?_;refine zoAssign 8 ⟨?_⟩;refine zoAssign 9 ⟨?_⟩;refine aAny_done (by kernel_rfl) ?_;refine k14 _ ?_;refine n13 _ _ (weak_keep [2,3,6,7] _) ?_;refine zk ⟨?_⟩;refine v_seqR [2,3,6,7,8] ?_;intro K15 k15;refine zLoad ⟨?_⟩;refine zc (c1) ⟨?_⟩;refine zAlloc ⟨?_⟩;refine zStore ⟨?_⟩;refine k15 _ ?_;refine zk ⟨?_⟩;refine v_seqR [2,3,6,7,8,9] ?_;intro K16 k16;refine zLoad ⟨?_⟩;refine zc (c2) ⟨?_⟩;refine zAlloc ⟨?_⟩;refine zStore ⟨?_⟩;refine k16 _ ?_;refine zk ⟨?_⟩;refine v_seqR [2,3,6,7,8,9,10,11] ?_;intro K17 k17;refine zLoad ⟨?_⟩;refine zLoad ⟨?_⟩;refine zc (c4) ⟨?_⟩;refine zMove ⟨?_⟩;refine zExtract ⟨?_⟩;refine zExtract ⟨?_⟩;refine zAssign ⟨?_⟩;refine zAssign ⟨?_⟩;refine k17 _ ?_;refine zk ⟨?_⟩;refine v_seq ?_;intro Q18 n18 e18 r18;refine v_seqR [2,3,8,9,47] ?_;intro K19 k19;refine zq34 ⟨?_⟩;refine zq17 ⟨?_⟩;refine zq33 ⟨?_⟩;refine zPick ⟨?_⟩;refine k19 _ ?_;refine zk ⟨?_⟩;refine v_cond _ rfl ?_ ?_
   ·intro hc2
    exfalso;first | (simp at hc2;done) | (simp at hc2;omega)
   ·intro hc2
    try simp only [zC,reduceCtorEq] at hc2
    refine v_skip ?_;refine n18 _ _ (weak_keep [2,3,8,9] _) ?_;refine zk ⟨?_⟩;refine v_seq ?_;intro Q21 n21 e21 r21;refine v_seq ?_;intro Q22 n22 e22 r22;refine v_draw (by kernel_rfl) ?_;intro K23 q23 k23
    show aAny _ _ _ _ 5 (Array.replicate 5 false) _
    refine zdLoadX q23 true 0 48 ?_;refine zdLoadX q23 true 1 49 ?_;refine zoc 2 (c1) ⟨?_⟩;refine zoc 3 (c5) ⟨?_⟩;refine zdUnOp q23 true 4 52 ?_;refine aAny_done (by kernel_rfl) ?_;refine k23 _ ?_;refine n22 _ _ (weak_keep [3,9,52] _) ?_;refine zk ⟨?_⟩;refine v_cond _ rfl ?_ ?_
    ·intro hc3
     exfalso;first | (simp at hc3;done) | (simp at hc3;omega)
    ·intro hc3
     try simp only [zC,reduceCtorEq] at hc3
     refine v_skip ?_;refine n21 _ _ (weak_keep [3,9] _) ?_;refine zk ⟨?_⟩;refine v_seq ?_;intro Q25 n25 e25 r25;refine v_seq ?_;intro Q26 n26 e26 r26;refine v_draw (by kernel_rfl) ?_;intro K27 q27 k27
     show aAny _ _ _ _ 5 (Array.replicate 5 false) _
     refine zdLoadX q27 true 0 53 ?_;refine zdLoadX q27 true 1 54 ?_;refine zoc 2 (c2) ⟨?_⟩;refine zoc 3 (c6) ⟨?_⟩;refine zdUnOp q27 true 4 57 ?_;refine aAny_done (by kernel_rfl) ?_;refine k27 _ ?_;refine n26 _ _ (weak_keep [57] _) ?_;refine zk ⟨?_⟩;refine v_cond _ rfl ?_ ?_
     ·intro hc4
      exfalso;first | (simp at hc4;done) | (simp at hc4;omega)
     ·intro hc4
      try simp only [zC,reduceCtorEq] at hc4
      refine v_skip ?_;refine n25 _ _ (weak_keep [] _) ?_;refine zk ⟨?_⟩;refine v_seqR [4] ?_;intro K29 k29;refine zAssign ⟨?_⟩;refine k29 _ ?_;refine zk ⟨?_⟩;refine v_ret ?_;refine r0 _ ?_;refine zf ⟨?_⟩
      exact ret_pure rfl rfl (.inl rfl)
end Go.Proofs.YtaefoaghpehbpaaGreatDoor
