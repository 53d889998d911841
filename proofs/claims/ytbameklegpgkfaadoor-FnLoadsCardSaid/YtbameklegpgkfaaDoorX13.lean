/- What functions compute. No condition. -/
import Derived.Test.YtbameklegpgkfaaDoorUz
import Derived.Test.YtbameklegpgkfaaDoorUty
import Derived.Test.YtbameklegpgkfaaDoorUmG
import Derived.Test.YtbameklegpgkfaaDoorX9
import Derived.Test.YtbameklegpgkfaaDoorX2
import Derived.Test.YtbameklegpgkfaaDoorX3
import Derived.Test.YtbameklegpgkfaaDoorX6
set_option linter.unusedSimpArgs false
set_option linter.unusedVariables false
set_option linter.defProp false
namespace Go.Proofs.YtbameklegpgkfaaDoor
open Go Go.Vm
set_option maxHeartbeats 1000000 in
theorem qLoads_con (l:List (ByteArray×List (ByteArray×Int×Int))) (hl:l.length≤1048576) (hlz:∀x∈l,x.2.length≤1048576):Con Tryd.prog 67 [.sl (l.map (fun t:ByteArray×List (ByteArray×Int×Int)=>V.agg [V.str t.1,V.sl (t.2.map (fun t:ByteArray×Int×Int=>V.agg [V.str t.1,V.int .i64 t.2.1,V.int .i64 t.2.2]))])),.sl (l.map (fun t:ByteArray×List (ByteArray×Int×Int)=>V.agg [V.str t.1,V.sl (t.2.map (fun t:ByteArray×Int×Int=>V.agg [V.str t.1,V.int .i64 t.2.1,V.int .i64 t.2.2]))]))] [] (.bool true) []:=by
 refine v_con [.tmp 4] [] Tryd.func67 rfl rfl rfl (by simp [Tryd.ntmps67]) ?_
 intro Q0 n0 r0
 simp only [Tryd.ntmps67,envFrom,Nat.reduceAdd]
 have T:=Tys.mk (And.intro Ty.t3 (And.intro Ty.t4 (And.intro Ty.t9 (And.intro Ty.t63 (And.intro Ty.t65 (And.intro Ty.t66 Ty.t93))))))
 have F:=Fc.mk True.intro
 refine v_seqR [0,1] ?_;intro K1 k1;refine zAssign ⟨?_⟩;refine k1 _ ?_;refine zk ⟨?_⟩;refine v_seq ?_;intro Q2 n2 e2 r2;refine v_seqR [0,1,10] ?_;intro K3 k3;refine zq5 ⟨?_⟩;refine zq5 ⟨?_⟩;refine zBinOp ⟨?_⟩;refine k3 _ ?_;refine zk ⟨?_⟩;refine v_cond _ rfl ?_ ?_
 ·intro hc0
  exfalso;simp at hc0
 ·intro hc0
  try simp only [zC,reduceCtorEq] at hc0
  refine v_skip ?_;refine n2 _ _ (weak_keep [0,1] _) ?_;refine zk ⟨?_⟩;refine v_seq ?_;intro Q5 n5 e5 r5;refine v_seqR [0,1,12,13] ?_;intro K6 k6;refine zq14 ⟨?_⟩;refine k6 _ ?_;refine zk ⟨?_⟩;refine v_block ?_;intro Q7 n7 x7 e7 r7;refine v_loop (fun i=>⟨[(0,.sl (l.map (fun t:ByteArray×List (ByteArray×Int×Int)=>V.agg [V.str t.1,V.sl (t.2.map (fun t:ByteArray×Int×Int=>V.agg [V.str t.1,V.int .i64 t.2.1,V.int .i64 t.2.2]))]))),(1,.sl (l.map (fun t:ByteArray×List (ByteArray×Int×Int)=>V.agg [V.str t.1,V.sl (t.2.map (fun t:ByteArray×Int×Int=>V.agg [V.str t.1,V.int .i64 t.2.1,V.int .i64 t.2.2]))]))),(12,.int .i64 l.length),(13,.int .i64 (Nat.cast i))],[],false,27,0⟩) (fun i=>i≤l.length) (fun i=>l.length - i) 0 ?_ ?_ ?_
  ·refine weak_of [0,1,12,13] ?_
   simp only [keep_mk,keepE_nil,keepE_cons,look_cons,look_nil,Nat.reduceEqDiff,reduceIte]
   rfl
  ·exact Nat.zero_le _
  ·rintro i hok8 Q8 n8 e8 r8
   have hi1:i≤l.length:=hok8
   refine v_seqR [0,1,12,13,14] ?_;intro K9 k9;refine zBinOp ⟨?_⟩;refine k9 _ ?_;refine zk ⟨?_⟩;refine v_seq ?_;intro Q10 n10 e10 r10;refine v_condS _ rfl ?_ ?_
   ·intro hc1
    have hlt:i < l.length:=by omega
    obtain ⟨⟨x0,x1⟩,hx⟩:∃x:ByteArray×List (ByteArray×Int×Int),l[i]? =some x:=⟨l[i]'(by omega),List.getElem?_eq_getElem (by omega)⟩
    have hxz:=hlz _ (List.mem_of_getElem? hx)
    simp only [] at hxz
    refine v_skip ?_;refine n10 _ _ (weak_keep [0,1,12,13] _) ?_;refine zk ⟨?_⟩;refine v_seq ?_;intro Q12 n12 e12 r12;refine v_block ?_;intro Q13 n13 x13 e13 r13;refine v_seqR [0,1,5,12,13] ?_;intro K14 k14
    have F:=Fc.mk (fun f=>getD_map (f:=f) hx)
    refine zq19 ⟨?_⟩;refine k14 _ ?_;refine zk ⟨?_⟩;refine v_seq ?_;intro Q15 n15 e15 r15;refine v_draw (by kernel_rfl) ?_;intro K16 q16 k16
    show aAny _ _ _ _ 10 (Array.replicate 10 false) _
    refine zdMove q16 true 0 16 ?_;refine zdMove q16 true 1 17 ?_;refine zdIndexAddr q16 true 2 18 ?_;refine zdLoadX q16 true 3 19 ?_;refine zdMove q16 true 4 20 ?_;refine zdMove q16 true 5 21 ?_;refine zdIndexAddr q16 true 6 22 ?_;refine zdLoadX q16 true 7 23 ?_;refine zoc 8 (qLoad_con x0 x1 hxz) ⟨?_⟩;refine zdUnOp q16 true 9 25 ?_;refine aAny_done (by kernel_rfl) ?_;refine k16 _ ?_;refine n15 _ _ (weak_keep [0,1,12,13,25] _) ?_;refine zk ⟨?_⟩;refine v_cond _ rfl ?_ ?_
    ·intro hc2
     exfalso;simp at hc2
    ·intro hc2
     try simp only [zC,reduceCtorEq] at hc2
     refine v_skip ?_;refine n13 _ ?_;refine n12 _ _ (weak_keep [0,1,12,13] _) ?_;refine zk ⟨?_⟩;refine v_region ?_;intro K18 k18;refine zq6 ⟨?_⟩;refine k18 _ ?_;refine n8 _ (i+1) ?_ ?_ ?_
     ·refine weak_bothS [0,1,12,13] [] ⟨?_⟩
      rfl
     ·exact hlt
     ·show _ < _;omega
   ·intro hc1
    refine v_exit ?_;refine e10 _ _ ?_;refine e8 _ _ ?_;refine x7 _ ?_;refine n5 _ _ (weak_keep [] _) ?_;refine zk ⟨?_⟩;refine v_seqR [4] ?_;intro K19 k19;refine zAssign ⟨?_⟩;refine k19 _ ?_;refine zk ⟨?_⟩;refine v_ret ?_;refine r0 _ ?_;refine zf ⟨?_⟩
    exact ret_pure rfl rfl (.inl rfl)
set_option maxHeartbeats 1000000 in
theorem qTexts_con (l:List (ByteArray)) (hl:l.length≤1048576):Con Tryd.prog 68 [.sl (l.map V.str),.sl (l.map V.str)] [] (.bool true) []:=by
 refine v_con [.tmp 4] [] Tryd.func68 rfl rfl rfl (by simp [Tryd.ntmps68]) ?_
 intro Q0 n0 r0
 simp only [Tryd.ntmps68,envFrom,Nat.reduceAdd]
 have T:=Tys.mk (And.intro Ty.t3 (And.intro Ty.t9 Ty.t74))
 have F:=Fc.mk True.intro
 refine v_seqR [0,1] ?_;intro K1 k1;refine zAssign ⟨?_⟩;refine k1 _ ?_;refine zk ⟨?_⟩;refine v_seq ?_;intro Q2 n2 e2 r2;refine v_seqR [0,1,10] ?_;intro K3 k3;refine zq5 ⟨?_⟩;refine zq5 ⟨?_⟩;refine zBinOp ⟨?_⟩;refine k3 _ ?_;refine zk ⟨?_⟩;refine v_cond _ rfl ?_ ?_
 ·intro hc0
  exfalso;simp at hc0
 ·intro hc0
  try simp only [zC,reduceCtorEq] at hc0
  refine v_skip ?_;refine n2 _ _ (weak_keep [0,1] _) ?_;refine zk ⟨?_⟩;refine v_seq ?_;intro Q5 n5 e5 r5;refine v_seqR [0,1,12,13] ?_;intro K6 k6;refine zq14 ⟨?_⟩;refine k6 _ ?_;refine zk ⟨?_⟩;refine v_block ?_;intro Q7 n7 x7 e7 r7;refine v_loop (fun i=>⟨[(0,.sl (l.map V.str)),(1,.sl (l.map V.str)),(12,.int .i64 l.length),(13,.int .i64 (Nat.cast i))],[],false,26,0⟩) (fun i=>i≤l.length) (fun i=>l.length - i) 0 ?_ ?_ ?_
  ·refine weak_of [0,1,12,13] ?_
   simp only [keep_mk,keepE_nil,keepE_cons,look_cons,look_nil,Nat.reduceEqDiff,reduceIte]
   rfl
  ·exact Nat.zero_le _
  ·rintro i hok8 Q8 n8 e8 r8
   have hi1:i≤l.length:=hok8
   refine v_seqR [0,1,12,13,14] ?_;intro K9 k9;refine zBinOp ⟨?_⟩;refine k9 _ ?_;refine zk ⟨?_⟩;refine v_seq ?_;intro Q10 n10 e10 r10;refine v_condS _ rfl ?_ ?_
   ·intro hc1
    have hlt:i < l.length:=by omega
    obtain ⟨x,hx⟩:∃x,l[i]? =some x:=⟨l[i],List.getElem?_eq_getElem hlt⟩
    refine v_skip ?_;refine n10 _ _ (weak_keep [0,1,12,13] _) ?_;refine zk ⟨?_⟩;refine v_seq ?_;intro Q12 n12 e12 r12;refine v_block ?_;intro Q13 n13 x13 e13 r13;refine v_seqR [0,1,5,12,13] ?_;intro K14 k14
    have F:=Fc.mk (fun f=>getD_map (f:=f) hx)
    refine zq19 ⟨?_⟩;refine k14 _ ?_;refine zk ⟨?_⟩;refine v_seq ?_;intro Q15 n15 e15 r15;refine v_draw (by kernel_rfl) ?_;intro K16 q16 k16
    show aAny _ _ _ _ 9 (Array.replicate 9 false) _
    refine zdMove q16 true 0 16 ?_;refine zdMove q16 true 1 17 ?_;refine zdIndexAddr q16 true 2 18 ?_;refine zdLoad q16 true 3 19 ?_;refine zdMove q16 true 4 20 ?_;refine zdMove q16 true 5 21 ?_;refine zdIndexAddr q16 true 6 22 ?_;refine zdLoad q16 true 7 23 ?_;refine zdBinOp q16 true 8 24 ?_;refine aAny_done (by kernel_rfl) ?_;refine k16 _ ?_;refine n15 _ _ (weak_keep [0,1,12,13,24] _) ?_;refine zk ⟨?_⟩;refine v_cond _ rfl ?_ ?_
    ·intro hc2
     exfalso;simp at hc2
    ·intro hc2
     try simp only [zC,reduceCtorEq] at hc2
     refine v_skip ?_;refine n13 _ ?_;refine n12 _ _ (weak_keep [0,1,12,13] _) ?_;refine zk ⟨?_⟩;refine v_region ?_;intro K18 k18;refine zq6 ⟨?_⟩;refine k18 _ ?_;refine n8 _ (i+1) ?_ ?_ ?_
     ·refine weak_bothS [0,1,12,13] [] ⟨?_⟩
      rfl
     ·exact hlt
     ·show _ < _;omega
   ·intro hc1
    refine v_exit ?_;refine e10 _ _ ?_;refine e8 _ _ ?_;refine x7 _ ?_;refine n5 _ _ (weak_keep [] _) ?_;refine zk ⟨?_⟩;refine v_seqR [4] ?_;intro K19 k19;refine zAssign ⟨?_⟩;refine k19 _ ?_;refine zk ⟨?_⟩;refine v_ret ?_;refine r0 _ ?_;refine zf ⟨?_⟩
    exact ret_pure rfl rfl (.inl rfl)
set_option maxHeartbeats 1000000 in
theorem qSay_con (l:List ByteArray) (s:ByteArray) (hl:l.length≤1048576):Con Tryd.prog 71 [.sl (l.map V.str),.str s] [] (.bool (inS s l)) []:=by
 refine v_con [.tmp 4] [] Tryd.func71 rfl rfl rfl (by simp [Tryd.ntmps71]) ?_
 intro Q0 n0 r0
 simp only [Tryd.ntmps71,envFrom,Nat.reduceAdd]
 have T:=Tys.mk (And.intro Ty.t3 (And.intro Ty.t9 Ty.t74))
 have F:=Fc.mk True.intro
 refine v_seqR [0,1] ?_;intro K1 k1;refine zAssign ⟨?_⟩;refine k1 _ ?_;refine zk ⟨?_⟩;refine v_seq ?_;intro Q2 n2 e2 r2;refine v_seqR [1,7,8,9] ?_;intro K3 k3;refine zq14 ⟨?_⟩;refine k3 _ ?_;refine zk ⟨?_⟩;refine v_block ?_;intro Q4 n4 x4 e4 r4;refine v_loop (fun i=>⟨[(1,.str s),(7,.sl (l.map V.str)),(8,.int .i64 l.length),(9,.int .i64 (Nat.cast i))],[],false,17,0⟩) (fun i=>i≤l.length∧inS s (l.drop i)=inS s l) (fun i=>l.length - i) 0 ?_ ?_ ?_
 ·refine weak_of [1,7,8,9] ?_
  simp only [keep_mk,keepE_nil,keepE_cons,look_cons,look_nil,Nat.reduceEqDiff,reduceIte]
  rfl
 ·exact ⟨Nat.zero_le _,rfl⟩
 ·rintro i hok5 Q5 n5 e5 r5
  obtain ⟨hi1,hR⟩:=hok5
  refine v_seqR [1,7,8,9,10] ?_;intro K6 k6;refine zBinOp ⟨?_⟩;refine k6 _ ?_;refine zk ⟨?_⟩;refine v_seq ?_;intro Q7 n7 e7 r7;refine v_condS _ rfl ?_ ?_
  ·intro hc0
   have hlt:i < l.length:=by omega
   obtain ⟨y,hy⟩:∃y,l[i]? =some y:=⟨_,List.getElem?_eq_getElem hlt⟩
   have hst:=inS_step (x:=s) hy
   refine v_skip ?_;refine n7 _ _ (weak_keep [1,7,8,9] _) ?_;refine zk ⟨?_⟩;refine v_seq ?_;intro Q9 n9 e9 r9;refine v_block ?_;intro Q10 n10 x10 e10 r10;refine v_seqR [1,6,7,8,9] ?_;intro K11 k11
   have F:=Fc.mk (fun f=>getD_map (f:=f) hy)
   refine zq13 ⟨?_⟩;refine zAssign ⟨?_⟩;refine k11 _ ?_;refine zk ⟨?_⟩;refine v_seqR [1,7,8,9,15] ?_;intro K12 k12;refine zq56 ⟨?_⟩;refine k12 _ ?_;refine zk ⟨?_⟩;refine v_condS _ rfl ?_ ?_
   ·intro hc1
    refine v_seqR [4] ?_;intro K14 k14;refine zAssign ⟨?_⟩;refine k14 _ ?_;refine zk ⟨?_⟩;refine v_ret ?_;refine r10 _ ?_;refine r9 _ ?_;refine r5 _ ?_;refine r4 _ ?_;refine r2 _ ?_;refine r0 _ ?_;refine zf ⟨?_⟩
    exact ret_pure rfl (by rw [←hR,hst,decide_eq_true (by first | exact hc1.symm | exact hc1),Bool.true_or]) (.inl rfl)
   ·intro hc1
    refine v_skip ?_;refine n10 _ ?_;refine n9 _ _ (weak_keep [1,7,8,9] _) ?_;refine zk ⟨?_⟩;refine v_region ?_;intro K15 k15;refine zq6 ⟨?_⟩;refine k15 _ ?_;refine n5 _ (i+1) ?_ ?_ ?_
    ·refine weak_bothS [1,7,8,9] [] ⟨?_⟩
     rfl
    ·exact ⟨by omega,by rw [←hR,hst,decide_eq_false (by first | exact hc1 | exact fun q=>hc1 q.symm),Bool.false_or]⟩
    ·show _ < _;omega
  ·intro hc0
   refine v_exit ?_;refine e7 _ _ ?_;refine e5 _ _ ?_;refine x4 _ ?_;refine n2 _ _ (weak_keep [] _) ?_;refine zk ⟨?_⟩;refine v_seqR [4] ?_;intro K16 k16;refine zAssign ⟨?_⟩;refine k16 _ ?_;refine zk ⟨?_⟩;refine v_ret ?_;refine r0 _ ?_;refine zf ⟨?_⟩
   exact ret_pure rfl (by rw [←hR,inS_end (by omega)]) (.inl rfl)
theorem snoc_Load {a:List (ByteArray×List (ByteArray×Int×Int))} {x0:ByteArray} {x1:List (ByteArray×Int×Int)}:a.map (fun t:ByteArray×List (ByteArray×Int×Int)=>V.agg [V.str t.1,V.sl (t.2.map (fun t:ByteArray×Int×Int=>V.agg [V.str t.1,V.int .i64 t.2.1,V.int .i64 t.2.2]))])++[V.agg [V.str x0,V.sl (x1.map (fun t:ByteArray×Int×Int=>V.agg [V.str t.1,V.int .i64 t.2.1,V.int .i64 t.2.2]))]]=(a++[(x0,x1)]).map (fun t:ByteArray×List (ByteArray×Int×Int)=>V.agg [V.str t.1,V.sl (t.2.map (fun t:ByteArray×Int×Int=>V.agg [V.str t.1,V.int .i64 t.2.1,V.int .i64 t.2.2]))]):=by simp
theorem setat_Load {a:List (ByteArray×List (ByteArray×Int×Int))} {i:Nat} {x0:ByteArray} {x1:List (ByteArray×Int×Int)}:(a.map (fun t:ByteArray×List (ByteArray×Int×Int)=>V.agg [V.str t.1,V.sl (t.2.map (fun t:ByteArray×Int×Int=>V.agg [V.str t.1,V.int .i64 t.2.1,V.int .i64 t.2.2]))])).set i (V.agg [V.str x0,V.sl (x1.map (fun t:ByteArray×Int×Int=>V.agg [V.str t.1,V.int .i64 t.2.1,V.int .i64 t.2.2]))])=(a.set i (x0,x1)).map (fun t:ByteArray×List (ByteArray×Int×Int)=>V.agg [V.str t.1,V.sl (t.2.map (fun t:ByteArray×Int×Int=>V.agg [V.str t.1,V.int .i64 t.2.1,V.int .i64 t.2.2]))]):=by rw [List.map_set]
set_option maxRecDepth 8000 in
set_option maxHeartbeats 4000000 in
theorem loads_con (code:List Int) (a s:Int) (m:Int) (hm:0≤m∧m≤7) (hcode:∀x∈code,0≤x∧x≤255) (hcl:code.length≤9223372036854775807) (ha:0≤a∧a < 14000000000):ConX Tryd.prog 116 [.ptr 0 0 0,.int .i64 m] [.box (.agg [.sl (code.map (V.int .u8)),.int .i64 a,.int .u64 s]) .shal] (fun r O'=>∃(l:List (ByteArray×List (ByteArray×Int×Int))) (a' s':Int),(l.length≤8∧∀x∈l,x.1.size≤9∧x.2.length≤18∧∀t∈x.2,t.1.size≤9)∧(a≤a'∧a'≤a+20000)∧r=.ref 1∧O'=[.box (.agg [.sl (code.map (V.int .u8)),.int .i64 a',.int .u64 s']) .shal,.arr (l.map (fun t:ByteArray×List (ByteArray×Int×Int)=>V.agg [V.str t.1,V.sl (t.2.map (fun t:ByteArray×Int×Int=>V.agg [V.str t.1,V.int .i64 t.2.1,V.int .i64 t.2.2]))])) (fillK l.length)]):=by
 refine v_conX [.tmp 4] [(76,[0,1]),(73,[0]),(75,[0]),(114,[0])] Tryd.func116 rfl rfl rfl (by simp [Tryd.ntmps116]) ?_
 intro Q0 n0 r0
 simp only [Tryd.ntmps116,envFrom,Nat.reduceAdd]
 have T:=Tys.mk (And.intro Ty.t3 (And.intro Ty.t4 (And.intro Ty.t5 (And.intro Ty.t9 (And.intro Ty.t22 (And.intro Ty.t63 (And.intro Ty.t65 (And.intro Ty.t66 (And.intro Ty.t93 (And.intro Ty.t95 (And.intro Ty.t96 Ty.t98)))))))))))
 have F:=Fc.mk True.intro
 refine v_seqR [0,1] ?_;intro K1 k1;refine zAssign ⟨?_⟩;refine k1 _ ?_;refine zk ⟨?_⟩;refine v_seqR [0,1,5] ?_;intro K2 k2;refine zAssign ⟨?_⟩;refine k2 _ ?_;refine zk ⟨?_⟩;refine v_seqR [0,1,5,6] ?_;intro K3 k3;refine zMove ⟨?_⟩;refine v_op ?_;intro K k
 simp only [zE,zM,aStepM,optable,set_some,Nat.reduceEqDiff,reduceIte,Nat.reduceLT,implies_true,forall_const,reduceCtorEq,V.ofValue,V.ofScalar,V.un,V.gd,aExec,lentIds,lendOf,‹Tys _›.h,‹Fc _›.h]
 repeat (refine andC ?_)
 refine aCall_lentXA (pick_con code a s (4) hcode hcl (by omega)) ?_
 rintro _ _ ⟨v8,a8,s8,h8,k8,rfl,rfl⟩
 refine ⟨_,_,rfl,by first | exact .inr (List.all_eq_true.1 rfl) | exact .inl ⟨rfl,by simp [Blk.kindIs,fillK_fd]⟩,?_⟩;refine k _ ?_;clear k K
 simp only [zY,zW,set_some,Nat.reduceEqDiff,reduceIte,rho_one,rho_s,rho2_s,rho2_0,rho2_1,V.ren,V.renL,List.set_cons_zero,List.set_cons_succ,rho,Nat.reduceAdd,Nat.add_zero]
 refine zAssign ⟨?_⟩;refine k3 _ ?_;refine zk ⟨?_⟩;refine v_join (A:=Int×Int×Int) (fun p=>⟨[(0,.ptr 0 0 0),(5,.ref 1),(6,.int .i64 p.1)],[.box (.agg [.sl (code.map (V.int .u8)),.int .i64 p.2.1,.int .u64 p.2.2]) .shal,.arr [] .flat],false,43,0⟩) (fun p=>(0≤p.1∧p.1≤8)∧a≤p.2.1∧p.2.1≤a+6) ?_ ?_
 ·intro Q4 n4 e4 r4
  refine v_seqR [0,1,5,6,10] ?_;intro K5 k5;refine zMove ⟨?_⟩;refine v_op ?_;intro K k
  simp only [zE,zM,aStepM,optable,set_some,Nat.reduceEqDiff,reduceIte,Nat.reduceLT,implies_true,forall_const,reduceCtorEq,V.ofValue,V.ofScalar,V.un,V.gd,aExec,lentIds,lendOf,‹Tys _›.h,‹Fc _›.h]
  repeat (refine andC ?_)
  refine aCall_lentXA (one_con code a8 s8 (12) hcode hcl (by omega)) ?_
  rintro _ _ ⟨v10,a10,s10,h10,k10,rfl,rfl⟩
  refine ⟨_,_,rfl,by first | exact .inr (List.all_eq_true.1 rfl) | exact .inl ⟨rfl,by simp [Blk.kindIs,fillK_fd]⟩,?_⟩;refine k _ ?_;clear k K
  simp only [zY,zW,set_some,Nat.reduceEqDiff,reduceIte,rho_one,rho_s,rho2_s,rho2_0,rho2_1,V.ren,V.renL,List.set_cons_zero,List.set_cons_succ,rho,Nat.reduceAdd,Nat.add_zero]
  refine k5 _ ?_;refine zk ⟨?_⟩;refine v_condS _ rfl ?_ ?_
  ·intro hc0
   refine v_region ?_;intro K7 k7;refine zq3 ⟨?_⟩;refine v_op ?_;intro K k
   simp only [zE,zM,aStepM,optable,set_some,Nat.reduceEqDiff,reduceIte,Nat.reduceLT,implies_true,forall_const,reduceCtorEq,V.ofValue,V.ofScalar,V.un,V.gd,aExec,lentIds,lendOf,‹Tys _›.h,‹Fc _›.h]
   repeat (refine andC ?_)
   refine aCall_lentXA (pick_con code a10 s10 (2) hcode hcl (by omega)) ?_
   rintro _ _ ⟨v13,a13,s13,h13,k13,rfl,rfl⟩
   refine ⟨_,_,rfl,by first | exact .inr (List.all_eq_true.1 rfl) | exact .inl ⟨rfl,by simp [Blk.kindIs,fillK_fd]⟩,?_⟩;refine k _ ?_;clear k K
   simp only [zY,zW,set_some,Nat.reduceEqDiff,reduceIte,rho_one,rho_s,rho2_s,rho2_0,rho2_1,V.ren,V.renL,List.set_cons_zero,List.set_cons_succ,rho,Nat.reduceAdd,Nat.add_zero]
   refine zq25 ⟨?_⟩;refine k7 _ ?_;refine n4 (m+v13,a13,s13) _ ?_ ?_
   ·exact ⟨by show 0≤m+v13∧m+v13≤8;omega,by show a≤a13∧a13≤a+6;omega⟩
   ·refine weak_both [0,5,6] [0,2] (by decide) (by simp) ?_ ?_ ?_
    ·simp [keep_mk,keepE_nil,keepE_cons,look_cons,V.only,V.onlyL,idx]<;>(first | rfl | decide)
    ·simp [Blk.kindIs,fillK_mix]
    simp only [keep_mk,keepE_nil,keepE_cons,look_cons,look_nil,Nat.reduceEqDiff,reduceIte,St.comp,List.map_cons,List.map_nil,V.ren,V.renL,idx,List.getD_cons_zero,List.getD_cons_succ,Nat.reduceBEq,cond_true,cond_false,Option.map_some,Option.getD_some,Nat.reduceAdd,Nat.beq_eq_true_eq]
    all_goals rfl
  ·intro hc0
   refine v_skip ?_;refine n4 (v8,a10,s10) _ ?_ ?_
   ·exact ⟨by show 0≤v8∧v8≤8;omega,by show a≤a10∧a10≤a+6;omega⟩
   ·refine weak_both [0,5,6] [0,2] (by decide) (by simp) ?_ ?_ ?_
    ·simp [keep_mk,keepE_nil,keepE_cons,look_cons,V.only,V.onlyL,idx]<;>(first | rfl | decide)
    ·simp [Blk.kindIs,fillK_mix]
    simp only [keep_mk,keepE_nil,keepE_cons,look_cons,look_nil,Nat.reduceEqDiff,reduceIte,St.comp,List.map_cons,List.map_nil,V.ren,V.renL,idx,List.getD_cons_zero,List.getD_cons_succ,Nat.reduceBEq,cond_true,cond_false,Option.map_some,Option.getD_some,Nat.reduceAdd,Nat.beq_eq_true_eq]
    all_goals rfl
 ·rintro ⟨n,a1,s1⟩ hok4
  obtain ⟨hn,ha1⟩:=hok4
  simp only [] at hn ha1⊢
  refine v_seq ?_;intro Q8 n8 e8 r8;refine v_block ?_;intro Q9 n9 x9 e9 r9;refine v_loop (fun p=>⟨[(0,.ptr 0 0 0),(5,.ref 1),(6,.int .i64 n)],[.box (.agg [.sl (code.map (V.int .u8)),.int .i64 p.2.1,.int .u64 p.2.2]) .shal,.arr (p.1.map (fun t:ByteArray×List (ByteArray×Int×Int)=>V.agg [V.str t.1,V.sl (t.2.map (fun t:ByteArray×Int×Int=>V.agg [V.str t.1,V.int .i64 t.2.1,V.int .i64 t.2.2]))])) (fillK p.1.length)],false,43,0⟩) (fun p=>((p.1.length:Int)≤n∧∀x∈p.1,x.1.size≤9∧x.2.length≤18∧∀t∈x.2,t.1.size≤9)∧a1≤p.2.1∧p.2.1≤a1+1200 * (p.1.length:Int)) (fun p=>(n - (p.1.length:Int)).toNat) (([],a1,s1):List (ByteArray×List (ByteArray×Int×Int))×Int×Int) ?_ ?_ ?_
  ·refine weak_both [0,5,6] [0,1] (by decide) (by simp) ?_ ?_ ?_
   ·simp [keep_mk,keepE_nil,keepE_cons,look_cons,V.only,V.onlyL,idx]<;>(first | rfl | decide)
   ·simp [Blk.kindIs,fillK_mix]
   simp only [keep_mk,keepE_nil,keepE_cons,look_cons,look_nil,Nat.reduceEqDiff,reduceIte,St.comp,List.map_cons,List.map_nil,V.ren,V.renL,idx,List.getD_cons_zero,List.getD_cons_succ,Nat.reduceBEq,cond_true,cond_false,Option.map_some,Option.getD_some,Nat.reduceAdd,Nat.beq_eq_true_eq]
   all_goals rfl
  ·exact ⟨⟨by simpa using hn.1,by simp⟩,by simp⟩
  ·rintro ⟨acc,a2,s2⟩ hok10 Q10 n10 e10 r10
   obtain ⟨⟨hal,hac⟩,ha2⟩:=hok10
   simp only [] at hal hac ha2⊢
   refine v_seq ?_;intro Q11 n11 e11 r11;refine v_seqR [0,5,6,18] ?_;intro K12 k12
   have F:=Fc.mk True.intro
   refine zq14 ⟨?_⟩;refine zBinOp ⟨?_⟩;refine k12 _ ?_;refine zk ⟨?_⟩;refine v_condS _ rfl ?_ ?_
   ·intro hc1
    have hnb:(numB (2+(acc.length:Int)).toNat).size≤2:=numB_size 2 _ (by omega) (by omega)
    have hpz:((⟨#[112]⟩:ByteArray)).size=1:=rfl
    have hnm:((⟨#[112]⟩:ByteArray)++numB (2+(acc.length:Int)).toNat).size≤9:=by rw [ByteArray.size_append,hpz];omega
    refine v_skip ?_;refine n11 _ _ (weak_keep [0,5,6] _) ?_;refine zk ⟨?_⟩;refine v_block ?_;intro Q14 n14 x14 e14 r14;refine v_region ?_;intro K15 k15
    have F:=Fc.mk hpz
    refine zq3 ⟨?_⟩;refine zq5 ⟨?_⟩;refine zBinOpW ⟨?_⟩;refine zc (l1Num_con (2+(acc.length:Int)) (by omega)) ⟨?_⟩;refine zBinOpW ⟨?_⟩;refine v_op ?_;intro K k
    simp only [zE,zM,aStepM,optable,set_some,Nat.reduceEqDiff,reduceIte,Nat.reduceLT,implies_true,forall_const,reduceCtorEq,V.ofValue,V.ofScalar,V.un,V.gd,aExec,lentIds,lendOf,‹Tys _›.h,‹Fc _›.h]
    repeat (refine andC ?_)
    refine aCall_lentXA (load_con code a2 s2 ((⟨#[112]⟩:ByteArray)++numB (2+(acc.length:Int)).toNat) hnm hcode hcl (by omega)) ?_
    rintro _ _ ⟨b26,l26,a26,s26,h26,k26,rfl,rfl⟩
    refine ⟨_,_,rfl,by first | exact .inr (List.all_eq_true.1 rfl) | exact .inl ⟨rfl,by simp [Blk.kindIs,fillK_fd]⟩,?_⟩;refine k _ ?_;clear k K
    simp only [zY,zW,set_some,Nat.reduceEqDiff,reduceIte,rho_one,rho_s,rho2_s,rho2_0,rho2_1,V.ren,V.renL,List.set_cons_zero,List.set_cons_succ,rho,Nat.reduceAdd,Nat.add_zero]
    refine zq35 ⟨?_⟩;refine k15 _ ?_;refine n14 _ ?_;refine n10 _ (acc++[(b26,l26)],a26,s26) ?_ ?_ ?_
    ·refine weak_bothS [0,5,6] [0,4] ⟨?_⟩
     simp only [snoc_Load,List.length_append,List.length_cons,List.length_nil]
    ·exact ⟨⟨by show ((acc++_).length:Int)≤n;simp;omega,by show ∀x∈acc++[(b26,l26)],_;intro x hx;rcases List.mem_append.1 hx with q | q;exact hac x q;rw [List.mem_singleton] at q;subst q;exact h26⟩,by show a1≤a26∧a26≤a1+1200 * ((acc++_).length:Int);simp;omega⟩
    ·show _ < _;show (n - ((acc++_).length:Int)).toNat < (n - (acc.length:Int)).toNat;simp;omega
   ·intro hc1
    refine v_exit ?_;refine e11 _ _ ?_;refine e10 _ _ ?_;refine x9 _ ?_;refine n8 _ _ (weak_keep [0,5,6] _) ?_;refine zk ⟨?_⟩;refine v_seq ?_;intro Q16 n16 e16 r16;refine v_seqR [5,34] ?_;intro K17 k17;refine zq26 ⟨?_⟩;refine zq4 ⟨?_⟩;refine v_opG ?_;intro K k
    apply aStep_guardX (id:=0) 2 true (hc:=fun hG=>one_con code a2 s2 (20) hcode hcl (by omega))
    ·exact (show 33 < 43 by decide)
    ·rfl
    ·first | rfl | (simp only [zV,guardV,Nat.reduceEqDiff,reduceIte];done)
    ·intro hG F hF;simp only [zE,zM,aStepM,optable,set_some,Nat.reduceEqDiff,reduceIte,Nat.reduceLT,implies_true,forall_const,reduceCtorEq,V.ofValue,V.ofScalar,V.un,V.gd,aExec,lentIds,lendOf,‹Tys _›.h,‹Fc _›.h];first | exact hF | exact ⟨by simpa using hG,hF⟩ | (refine ⟨?_,hF⟩;simp_all;done)
    ·exact ⟨_,true,a2,s2,trivial,by omega,rfl,rfl⟩
    ·rfl
    ·rfl
    ·exact ⟨by simp [Blk.kindIs,fillK_mix],by simp⟩
    ·exact .inl rfl
    rintro _ _ ⟨v33,a33,s33,h33,k33,rfl,rfl⟩
    refine ⟨_,rfl,⟨rfl,rfl,by simp [Blk.kindIs,fillK_mix],.inr (List.all_eq_true.1 rfl)⟩,?_⟩;refine k _ ?_;clear k K
    simp only [zW,set_some,Nat.reduceEqDiff,reduceIte,List.set_cons_zero,List.set_cons_succ]
    refine zPick ⟨?_⟩;refine k17 _ ?_;refine zk ⟨?_⟩;refine v_condS _ rfl ?_ ?_
    ·intro hc2
     have hn1:1 < n:=by first | omega | (have h:=hc2;simp at h;omega)
     have hl2:2≤acc.length:=by omega
     obtain ⟨⟨y0,y1⟩,hy⟩:∃x:ByteArray×List (ByteArray×Int×Int),acc[1]? =some x:=⟨acc[1]'(by omega),List.getElem?_eq_getElem (by omega)⟩
     obtain ⟨⟨z0,z1⟩,hz⟩:∃x:ByteArray×List (ByteArray×Int×Int),acc[0]? =some x:=⟨acc[0]'(by omega),List.getElem?_eq_getElem (by omega)⟩
     have hyo:=hac _ (List.mem_of_getElem? hy)
     have hzo:=hac _ (List.mem_of_getElem? hz)
     simp only [] at hyo hzo
     refine v_region ?_;intro K19 k19
     have F:=Fc.mk (And.intro ((show ((1:Int).toNat=1∧(0:Int).toNat=0) from ⟨rfl,rfl⟩)) (And.intro (fun f=>getD_map (f:=f) hy) (And.intro (fun f=>getD_map (f:=f) hz) @setat_Load)))
     refine zq55 ⟨?_⟩;refine zq2 ⟨?_⟩;refine zIndexAddr ⟨?_⟩;refine zq24 ⟨?_⟩;refine k19 _ ?_;refine n16 _ _ (weak_keep [5] _) ?_;refine zk ⟨?_⟩;refine v_seqR [4] ?_;intro K20 k20;refine zq19 ⟨?_⟩;refine k20 _ ?_;refine zk ⟨?_⟩;refine v_ret ?_;refine r0 _ ?_;refine zf ⟨?_⟩;refine ret_viewX ?_
     exact ⟨acc.set 0 (y0,z1),a33,s33,⟨by rw [List.length_set];omega,by intro x hx;rcases List.mem_or_eq_of_mem_set hx with q | q;exact hac x q;subst q;exact ⟨hyo.1,hzo.2⟩⟩,by omega,rfl,by rw [List.length_set];rfl⟩
    ·intro hc2
     refine v_skip ?_;refine n16 _ _ (weak_keep [5] _) ?_;refine zk ⟨?_⟩;refine v_seqR [4] ?_;intro K21 k21;refine zq19 ⟨?_⟩;refine k21 _ ?_;refine zk ⟨?_⟩;refine v_ret ?_;refine r0 _ ?_;refine zf ⟨?_⟩;refine ret_viewX ?_
     exact ⟨acc,_,_,⟨by omega,hac⟩,by omega,rfl,rfl⟩
set_option maxHeartbeats 1000000 in
theorem thingDay_con (code:List Int) (a s:Int) (hcode:∀x∈code,0≤x∧x≤255) (hcl:code.length≤9223372036854775807) (ha:0≤a∧a < 17000000000):ConX Tryd.prog 127 [.ptr 0 0 0] [.box (.agg [.sl (code.map (V.int .u8)),.int .i64 a,.int .u64 s]) .shal] (fun r O'=>∃(v:Int) (a' s':Int),(-1≤v∧v≤10000)∧(a≤a'∧a'≤a+4)∧r=.int .i64 v∧O'=[.box (.agg [.sl (code.map (V.int .u8)),.int .i64 a',.int .u64 s']) .shal]):=by
 refine v_conX [.tmp 2] [(76,[0,1])] Tryd.func127 rfl rfl rfl (by simp [Tryd.ntmps127]) ?_
 intro Q0 n0 r0
 simp only [Tryd.ntmps127,envFrom,Nat.reduceAdd]
 have T:=Tys.mk (And.intro Ty.t3 (And.intro Ty.t5 (And.intro Ty.t22 (And.intro Ty.t36 (And.intro Ty.t95 (And.intro Ty.t96 Ty.t98))))))
 have F:=Fc.mk True.intro
 refine v_seqR [0] ?_;intro K1 k1;refine zAssign ⟨?_⟩;refine k1 _ ?_;refine zk ⟨?_⟩;refine v_seqR [2] ?_;intro K2 k2;refine zq3 ⟨?_⟩;refine zBuildSlice ⟨?_⟩;refine v_op ?_;intro K k
 simp only [zE,zM,aStepM,optable,set_some,Nat.reduceEqDiff,reduceIte,Nat.reduceLT,implies_true,forall_const,reduceCtorEq,V.ofValue,V.ofScalar,V.un,V.gd,aExec,lentIds,lendOf,‹Tys _›.h,‹Fc _›.h]
 repeat (refine andC ?_)
 refine aCall_lent2XA (among_con code a s [-1,10000] (by simp) hcode hcl (by omega)) ?_
 rintro _ _ ⟨v6,a6,s6,h6,k6,rfl,rfl⟩
 refine ⟨_,_,_,rfl,by first | exact .inr (List.all_eq_true.1 rfl) | exact .inl ⟨rfl,by simp [Blk.kindIs,fillK_fd]⟩,?_⟩;refine k _ ?_;clear k K
 simp only [zY,zW,set_some,Nat.reduceEqDiff,reduceIte,rho_one,rho_s,rho2_s,rho2_0,rho2_1,V.ren,V.renL,List.set_cons_zero,List.set_cons_succ,rho,Nat.reduceAdd,Nat.add_zero]
 simp only [List.mem_cons,List.not_mem_nil,or_false] at h6
 refine zBuildSlice ⟨?_⟩;refine v_op ?_;intro K k
 simp only [zE,zM,aStepM,optable,set_some,Nat.reduceEqDiff,reduceIte,Nat.reduceLT,implies_true,forall_const,reduceCtorEq,V.ofValue,V.ofScalar,V.un,V.gd,aExec,lentIds,lendOf,‹Tys _›.h,‹Fc _›.h]
 repeat (refine andC ?_)
 refine aCall_lent2XA (among_con code a6 s6 [0,10,100,365,9999,v6] (by simp) hcode hcl (by omega)) ?_
 rintro _ _ ⟨v8,a8,s8,h8,k8,rfl,rfl⟩
 refine ⟨_,_,_,rfl,by first | exact .inr (List.all_eq_true.1 rfl) | exact .inl ⟨rfl,by simp [Blk.kindIs,fillK_fd]⟩,?_⟩;refine k _ ?_;clear k K
 simp only [zY,zW,set_some,Nat.reduceEqDiff,reduceIte,rho_one,rho_s,rho2_s,rho2_0,rho2_1,V.ren,V.renL,List.set_cons_zero,List.set_cons_succ,rho,Nat.reduceAdd,Nat.add_zero]
 simp only [List.mem_cons,List.not_mem_nil,or_false] at h8
 refine zAssign ⟨?_⟩;refine k2 _ ?_;refine zk ⟨?_⟩;refine v_ret ?_;refine r0 _ ?_;refine zf ⟨?_⟩;refine ret_viewX ?_
 exact ⟨_,_,_,by omega,by omega,rfl,rfl⟩
set_option maxHeartbeats 1000000 in
theorem drawDue_con (code:List Int) (hcode:∀x∈code,0≤x∧x≤255) (hcl:code.length≤9223372036854775807):ConX Tryd.prog 54 [.sl (code.map (V.int .u8))] [] (fun r O'=>∃(a:ByteArray) (l:List (ByteArray×Int×Int)) (day ev:Int),((a.size≤9∧l.length≤18∧∀x∈l,x.1.size≤9)∧(-1≤day∧day≤10000)∧(0≤ev∧ev≤1001))∧r=.tup [.agg [.str a,.ref 0],.int .i64 day,.int .i64 ev]∧O'=[.arr (l.map (fun t:ByteArray×Int×Int=>V.agg [V.str t.1,V.int .i64 t.2.1,V.int .i64 t.2.2])) .flat]):=by
 refine v_conX [.cell 2 65,.tmp 3,.tmp 4] [(114,[0]),(115,[0]),(116,[0]),(131,[0]),(127,[0]),(76,[0,1]),(73,[0]),(75,[0]),(155,[0,1])] Tryd.func54 rfl rfl rfl (by simp [Tryd.ntmps54]) ?_
 intro Q0 n0 r0
 simp only [Tryd.ntmps54,envFrom,Nat.reduceAdd]
 have T:=Tys.mk (And.intro Ty.t3 (And.intro Ty.t5 (And.intro Ty.t9 (And.intro Ty.t22 (And.intro Ty.t36 (And.intro Ty.t63 (And.intro Ty.t65 (And.intro Ty.t93 (And.intro Ty.t95 (And.intro Ty.t96 Ty.t98))))))))))
 have F:=Fc.mk True.intro
 refine v_seqR [0,2] ?_;intro K1 k1;refine zAlloc ⟨?_⟩;refine zq1 ⟨?_⟩;refine k1 _ ?_;refine zk ⟨?_⟩;refine v_seqR [2,5] ?_;intro K2 k2;refine zMove ⟨?_⟩;refine zBuild ⟨?_⟩;refine zq21 ⟨?_⟩;refine k2 _ ?_;refine zk ⟨?_⟩;refine v_seqR [2,3,4] ?_;intro K3 k3;refine zMove ⟨?_⟩;refine v_op ?_;intro K k
 simp only [zE,zM,aStepM,optable,set_some,Nat.reduceEqDiff,reduceIte,Nat.reduceLT,implies_true,forall_const,reduceCtorEq,V.ofValue,V.ofScalar,V.un,V.gd,aExec,lentIds,lendOf,‹Tys _›.h,‹Fc _›.h]
 repeat (refine andC ?_)
 refine aCall_lentXA (load_con code 0 0 (⟨#[112,49]⟩:ByteArray) (by decide) hcode hcl (by omega)) ?_
 rintro _ _ ⟨b10,l10,a10,s10,h10,k10,rfl,rfl⟩
 refine ⟨_,_,rfl,by first | exact .inr (List.all_eq_true.1 rfl) | exact .inl ⟨rfl,by simp [Blk.kindIs,fillK_fd]⟩,?_⟩;refine k _ ?_;clear k K
 simp only [zY,zW,set_some,Nat.reduceEqDiff,reduceIte,rho_one,rho_s,rho2_s,rho2_0,rho2_1,V.ren,V.renL,List.set_cons_zero,List.set_cons_succ,rho,Nat.reduceAdd,Nat.add_zero]
 refine zMove ⟨?_⟩;refine v_op ?_;intro K k
 simp only [zE,zM,aStepM,optable,set_some,Nat.reduceEqDiff,reduceIte,Nat.reduceLT,implies_true,forall_const,reduceCtorEq,V.ofValue,V.ofScalar,V.un,V.gd,aExec,lentIds,lendOf,‹Tys _›.h,‹Fc _›.h]
 repeat (refine andC ?_)
 refine aCall_lentXA (thingDay_con code a10 s10 hcode hcl (by omega)) ?_
 rintro _ _ ⟨v12,a12,s12,h12,k12,rfl,rfl⟩
 refine ⟨_,_,rfl,by first | exact .inr (List.all_eq_true.1 rfl) | exact .inl ⟨rfl,by simp [Blk.kindIs,fillK_fd]⟩,?_⟩;refine k _ ?_;clear k K
 simp only [zY,zW,set_some,Nat.reduceEqDiff,reduceIte,rho_one,rho_s,rho2_s,rho2_0,rho2_1,V.ren,V.renL,List.set_cons_zero,List.set_cons_succ,rho,Nat.reduceAdd,Nat.add_zero]
 refine zq3 ⟨?_⟩;refine zBuildSlice ⟨?_⟩;refine v_op ?_;intro K k
 simp only [zE,zM,aStepM,optable,set_some,Nat.reduceEqDiff,reduceIte,Nat.reduceLT,implies_true,forall_const,reduceCtorEq,V.ofValue,V.ofScalar,V.un,V.gd,aExec,lentIds,lendOf,‹Tys _›.h,‹Fc _›.h]
 repeat (refine andC ?_)
 refine aCall_lent2XA (among_con code a12 s12 [0,1001] (by simp) hcode hcl (by omega)) ?_
 rintro _ _ ⟨v16,a16,s16,h16,k16,rfl,rfl⟩
 refine ⟨_,_,_,rfl,by first | exact .inr (List.all_eq_true.1 rfl) | exact .inl ⟨rfl,by simp [Blk.kindIs,fillK_fd]⟩,?_⟩;refine k _ ?_;clear k K
 simp only [zY,zW,set_some,Nat.reduceEqDiff,reduceIte,rho_one,rho_s,rho2_s,rho2_0,rho2_1,V.ren,V.renL,List.set_cons_zero,List.set_cons_succ,rho,Nat.reduceAdd,Nat.add_zero]
 simp only [List.mem_cons,List.not_mem_nil,or_false] at h16
 refine zBuildSlice ⟨?_⟩;refine v_op ?_;intro K k
 simp only [zE,zM,aStepM,optable,set_some,Nat.reduceEqDiff,reduceIte,Nat.reduceLT,implies_true,forall_const,reduceCtorEq,V.ofValue,V.ofScalar,V.un,V.gd,aExec,lentIds,lendOf,‹Tys _›.h,‹Fc _›.h]
 repeat (refine andC ?_)
 refine aCall_lent2XA (among_con code a16 s16 [1,30,90,1000,v16] (by simp) hcode hcl (by omega)) ?_
 rintro _ _ ⟨v18,a18,s18,h18,k18,rfl,rfl⟩
 refine ⟨_,_,_,rfl,by first | exact .inr (List.all_eq_true.1 rfl) | exact .inl ⟨rfl,by simp [Blk.kindIs,fillK_fd]⟩,?_⟩;refine k _ ?_;clear k K
 simp only [zY,zW,set_some,Nat.reduceEqDiff,reduceIte,rho_one,rho_s,rho2_s,rho2_0,rho2_1,V.ren,V.renL,List.set_cons_zero,List.set_cons_succ,rho,Nat.reduceAdd,Nat.add_zero]
 simp only [List.mem_cons,List.not_mem_nil,or_false] at h18
 refine zStore ⟨?_⟩;refine zq1 ⟨?_⟩;refine k3 _ ?_;refine zk ⟨?_⟩;refine v_ret ?_;refine r0 _ ?_;refine zf ⟨?_⟩
 simp only [zE,zL,zO,zN,aStepM,optable,set_some,Nat.reduceEqDiff,reduceIte,Nat.reduceLT,implies_true,forall_const,reduceCtorEq,V.ofValue,V.ofScalar,V.un,V.gd,aLoad,row_mk,Blk.row,PartOK,Go.Vm.part,V.cells,V.noSl,V.noRef,Nat.reduceAdd,Nat.reduceLeDiff,Nat.reduceMul,Tryd.underlying9,Ty.c9,Ty.a9,Tryd.underlying63,Ty.c63,Ty.a63,Tryd.underlying65,Ty.c65,Ty.a65]
 refine ret_viewX ?_
 exact ⟨b10,l10,v12,v18,⟨h10,h12,by omega⟩,rfl,rfl⟩
set_option maxHeartbeats 1000000 in
theorem drawChk_con (code:List Int) (hcode:∀x∈code,0≤x∧x≤255) (hcl:code.length≤9223372036854775807):ConX Tryd.prog 57 [.sl (code.map (V.int .u8))] [] (fun r O'=>∃(a:ByteArray) (l:List (ByteArray×Int×Int)) (s:ByteArray) (day:Int),((a.size≤9∧l.length≤18∧∀x∈l,x.1.size≤9)∧s.size≤9∧(-1≤day∧day≤10000))∧r=.tup [.agg [.str a,.ref 0],.str s,.int .i64 day]∧O'=[.arr (l.map (fun t:ByteArray×Int×Int=>V.agg [V.str t.1,V.int .i64 t.2.1,V.int .i64 t.2.2])) .flat]):=by
 refine v_conX [.cell 2 65,.tmp 3,.tmp 4] [(114,[0]),(115,[0]),(116,[0]),(131,[0]),(127,[0]),(76,[0,1]),(73,[0]),(75,[0]),(155,[0,1])] Tryd.func57 rfl rfl rfl (by simp [Tryd.ntmps57]) ?_
 intro Q0 n0 r0
 simp only [Tryd.ntmps57,envFrom,Nat.reduceAdd]
 have T:=Tys.mk (And.intro Ty.t3 (And.intro Ty.t5 (And.intro Ty.t9 (And.intro Ty.t22 (And.intro Ty.t63 (And.intro Ty.t65 (And.intro Ty.t93 (And.intro Ty.t95 (And.intro Ty.t96 Ty.t98)))))))))
 have F:=Fc.mk True.intro
 refine v_seqR [0,2] ?_;intro K1 k1;refine zAlloc ⟨?_⟩;refine zq1 ⟨?_⟩;refine k1 _ ?_;refine zk ⟨?_⟩;refine v_seqR [2,5] ?_;intro K2 k2;refine zMove ⟨?_⟩;refine zBuild ⟨?_⟩;refine zq21 ⟨?_⟩;refine k2 _ ?_;refine zk ⟨?_⟩;refine v_seqR [2,3,4] ?_;intro K3 k3;refine zMove ⟨?_⟩;refine v_op ?_;intro K k
 simp only [zE,zM,aStepM,optable,set_some,Nat.reduceEqDiff,reduceIte,Nat.reduceLT,implies_true,forall_const,reduceCtorEq,V.ofValue,V.ofScalar,V.un,V.gd,aExec,lentIds,lendOf,‹Tys _›.h,‹Fc _›.h]
 repeat (refine andC ?_)
 refine aCall_lentXA (load_con code 0 0 (⟨#[112,49]⟩:ByteArray) (by decide) hcode hcl (by omega)) ?_
 rintro _ _ ⟨b10,l10,a10,s10,h10,k10,rfl,rfl⟩
 refine ⟨_,_,rfl,by first | exact .inr (List.all_eq_true.1 rfl) | exact .inl ⟨rfl,by simp [Blk.kindIs,fillK_fd]⟩,?_⟩;refine k _ ?_;clear k K
 simp only [zY,zW,set_some,Nat.reduceEqDiff,reduceIte,rho_one,rho_s,rho2_s,rho2_0,rho2_1,V.ren,V.renL,List.set_cons_zero,List.set_cons_succ,rho,Nat.reduceAdd,Nat.add_zero]
 refine zMove ⟨?_⟩;refine v_op ?_;intro K k
 simp only [zE,zM,aStepM,optable,set_some,Nat.reduceEqDiff,reduceIte,Nat.reduceLT,implies_true,forall_const,reduceCtorEq,V.ofValue,V.ofScalar,V.un,V.gd,aExec,lentIds,lendOf,‹Tys _›.h,‹Fc _›.h]
 repeat (refine andC ?_)
 refine aCall_lentXA (thingName_con code a10 s10 hcode hcl (by omega)) ?_
 rintro _ _ ⟨v12,a12,s12,h12,k12,rfl,rfl⟩
 refine ⟨_,_,rfl,by first | exact .inr (List.all_eq_true.1 rfl) | exact .inl ⟨rfl,by simp [Blk.kindIs,fillK_fd]⟩,?_⟩;refine k _ ?_;clear k K
 simp only [zY,zW,set_some,Nat.reduceEqDiff,reduceIte,rho_one,rho_s,rho2_s,rho2_0,rho2_1,V.ren,V.renL,List.set_cons_zero,List.set_cons_succ,rho,Nat.reduceAdd,Nat.add_zero]
 refine zMove ⟨?_⟩;refine v_op ?_;intro K k
 simp only [zE,zM,aStepM,optable,set_some,Nat.reduceEqDiff,reduceIte,Nat.reduceLT,implies_true,forall_const,reduceCtorEq,V.ofValue,V.ofScalar,V.un,V.gd,aExec,lentIds,lendOf,‹Tys _›.h,‹Fc _›.h]
 repeat (refine andC ?_)
 refine aCall_lentXA (thingDay_con code a12 s12 hcode hcl (by omega)) ?_
 rintro _ _ ⟨v14,a14,s14,h14,k14,rfl,rfl⟩
 refine ⟨_,_,rfl,by first | exact .inr (List.all_eq_true.1 rfl) | exact .inl ⟨rfl,by simp [Blk.kindIs,fillK_fd]⟩,?_⟩;refine k _ ?_;clear k K
 simp only [zY,zW,set_some,Nat.reduceEqDiff,reduceIte,rho_one,rho_s,rho2_s,rho2_0,rho2_1,V.ren,V.renL,List.set_cons_zero,List.set_cons_succ,rho,Nat.reduceAdd,Nat.add_zero]
 refine zStore ⟨?_⟩;refine zq1 ⟨?_⟩;refine k3 _ ?_;refine zk ⟨?_⟩;refine v_ret ?_;refine r0 _ ?_;refine zf ⟨?_⟩
 simp only [zE,zL,zO,zN,aStepM,optable,set_some,Nat.reduceEqDiff,reduceIte,Nat.reduceLT,implies_true,forall_const,reduceCtorEq,V.ofValue,V.ofScalar,V.un,V.gd,aLoad,row_mk,Blk.row,PartOK,Go.Vm.part,V.cells,V.noSl,V.noRef,Nat.reduceAdd,Nat.reduceLeDiff,Nat.reduceMul,Tryd.underlying9,Ty.c9,Ty.a9,Tryd.underlying63,Ty.c63,Ty.a63,Tryd.underlying65,Ty.c65,Ty.a65]
 refine ret_viewX ?_
 exact ⟨b10,l10,v12,v14,⟨h10,h12,h14⟩,rfl,rfl⟩
set_option maxHeartbeats 1000000 in
theorem drawCount_con (code:List Int) (hcode:∀x∈code,0≤x∧x≤255) (hcl:code.length≤9223372036854775807):ConX Tryd.prog 60 [.sl (code.map (V.int .u8))] [] (fun r O'=>∃(l:List (ByteArray×List (ByteArray×Int×Int))) (s:ByteArray),((l.length≤8∧∀x∈l,x.1.size≤9∧x.2.length≤18∧∀t∈x.2,t.1.size≤9)∧s.size≤9)∧r=.tup [.ref 0,.str s]∧O'=[.arr (l.map (fun t:ByteArray×List (ByteArray×Int×Int)=>V.agg [V.str t.1,V.sl (t.2.map (fun t:ByteArray×Int×Int=>V.agg [V.str t.1,V.int .i64 t.2.1,V.int .i64 t.2.2]))])) (fillK l.length)]):=by
 refine v_conX [.tmp 2,.tmp 3] [(114,[0]),(115,[0]),(116,[0]),(131,[0]),(127,[0]),(76,[0,1]),(73,[0]),(75,[0]),(155,[0,1])] Tryd.func60 rfl rfl rfl (by simp [Tryd.ntmps60]) ?_
 intro Q0 n0 r0
 simp only [Tryd.ntmps60,envFrom,Nat.reduceAdd]
 have T:=Tys.mk (And.intro Ty.t3 (And.intro Ty.t5 (And.intro Ty.t9 (And.intro Ty.t22 (And.intro Ty.t63 (And.intro Ty.t65 (And.intro Ty.t66 (And.intro Ty.t93 (And.intro Ty.t95 (And.intro Ty.t96 Ty.t98))))))))))
 have F:=Fc.mk True.intro
 refine v_seqR [0] ?_;intro K1 k1;refine zq1 ⟨?_⟩;refine k1 _ ?_;refine zk ⟨?_⟩;refine v_seqR [4] ?_;intro K2 k2;refine zMove ⟨?_⟩;refine zBuild ⟨?_⟩;refine zq21 ⟨?_⟩;refine k2 _ ?_;refine zk ⟨?_⟩;refine v_seqR [2,3] ?_;intro K3 k3;refine zMove ⟨?_⟩;refine v_op ?_;intro K k
 simp only [zE,zM,aStepM,optable,set_some,Nat.reduceEqDiff,reduceIte,Nat.reduceLT,implies_true,forall_const,reduceCtorEq,V.ofValue,V.ofScalar,V.un,V.gd,aExec,lentIds,lendOf,‹Tys _›.h,‹Fc _›.h]
 repeat (refine andC ?_)
 refine aCall_lentXA (loads_con code 0 0 7 (by omega) hcode hcl (by omega)) ?_
 rintro _ _ ⟨v9,a9,s9,h9,k9,rfl,rfl⟩
 refine ⟨_,_,rfl,by first | exact .inr (List.all_eq_true.1 rfl) | exact .inl ⟨rfl,by simp [Blk.kindIs,fillK_fd]⟩,?_⟩;refine k _ ?_;clear k K
 simp only [zY,zW,set_some,Nat.reduceEqDiff,reduceIte,rho_one,rho_s,rho2_s,rho2_0,rho2_1,V.ren,V.renL,List.set_cons_zero,List.set_cons_succ,rho,Nat.reduceAdd,Nat.add_zero]
 refine zMove ⟨?_⟩;refine v_op ?_;intro K k
 simp only [zE,zM,aStepM,optable,set_some,Nat.reduceEqDiff,reduceIte,Nat.reduceLT,implies_true,forall_const,reduceCtorEq,V.ofValue,V.ofScalar,V.un,V.gd,aExec,lentIds,lendOf,‹Tys _›.h,‹Fc _›.h]
 repeat (refine andC ?_)
 refine aCall_lentXA (thingName_con code a9 s9 hcode hcl (by omega)) ?_
 rintro _ _ ⟨v11,a11,s11,h11,k11,rfl,rfl⟩
 refine ⟨_,_,rfl,by first | exact .inr (List.all_eq_true.1 rfl) | exact .inl ⟨rfl,by simp [Blk.kindIs,fillK_fd]⟩,?_⟩;refine k _ ?_;clear k K
 simp only [zY,zW,set_some,Nat.reduceEqDiff,reduceIte,rho_one,rho_s,rho2_s,rho2_0,rho2_1,V.ren,V.renL,List.set_cons_zero,List.set_cons_succ,rho,Nat.reduceAdd,Nat.add_zero]
 refine zq1 ⟨?_⟩;refine k3 _ ?_;refine zk ⟨?_⟩;refine v_ret ?_;refine r0 _ ?_;refine zf ⟨?_⟩;refine ret_viewX ?_
 exact ⟨v9,v11,⟨h9,h11⟩,rfl,rfl⟩
set_option maxHeartbeats 1000000 in
theorem drawIsLoad_con (code:List Int) (hcode:∀x∈code,0≤x∧x≤255) (hcl:code.length≤9223372036854775807):ConX Tryd.prog 140 [.sl (code.map (V.int .u8))] [] (fun r O'=>∃(a:ByteArray) (l:List (ByteArray×Int×Int)),(a.size≤9∧l.length≤18∧∀x∈l,x.1.size≤9)∧r=.agg [.str a,.ref 0]∧O'=[.arr (l.map (fun t:ByteArray×Int×Int=>V.agg [V.str t.1,V.int .i64 t.2.1,V.int .i64 t.2.2])) .flat]):=by
 refine v_conX [.cell 2 65] [(114,[0]),(115,[0]),(116,[0]),(131,[0]),(127,[0]),(76,[0,1]),(73,[0]),(75,[0]),(155,[0,1])] Tryd.func140 rfl rfl rfl (by simp [Tryd.ntmps140]) ?_
 intro Q0 n0 r0
 simp only [Tryd.ntmps140,envFrom,Nat.reduceAdd]
 have T:=Tys.mk (And.intro Ty.t3 (And.intro Ty.t5 (And.intro Ty.t9 (And.intro Ty.t22 (And.intro Ty.t63 (And.intro Ty.t65 (And.intro Ty.t93 (And.intro Ty.t95 (And.intro Ty.t96 Ty.t98)))))))))
 have F:=Fc.mk True.intro
 refine v_seqR [0,2] ?_;intro K1 k1;refine zAlloc ⟨?_⟩;refine k1 _ ?_;refine zk ⟨?_⟩;refine v_seqR [2,3] ?_;intro K2 k2;refine zMove ⟨?_⟩;refine zBuild ⟨?_⟩;refine zq21 ⟨?_⟩;refine k2 _ ?_;refine zk ⟨?_⟩;refine v_seqR [2] ?_;intro K3 k3;refine zMove ⟨?_⟩;refine v_op ?_;intro K k
 simp only [zE,zM,aStepM,optable,set_some,Nat.reduceEqDiff,reduceIte,Nat.reduceLT,implies_true,forall_const,reduceCtorEq,V.ofValue,V.ofScalar,V.un,V.gd,aExec,lentIds,lendOf,‹Tys _›.h,‹Fc _›.h]
 repeat (refine andC ?_)
 refine aCall_lentXA (load_con code 0 0 (⟨#[112,49]⟩:ByteArray) (by decide) hcode hcl (by omega)) ?_
 rintro _ _ ⟨b8,l8,a8,s8,h8,k8,rfl,rfl⟩
 refine ⟨_,_,rfl,by first | exact .inr (List.all_eq_true.1 rfl) | exact .inl ⟨rfl,by simp [Blk.kindIs,fillK_fd]⟩,?_⟩;refine k _ ?_;clear k K
 simp only [zY,zW,set_some,Nat.reduceEqDiff,reduceIte,rho_one,rho_s,rho2_s,rho2_0,rho2_1,V.ren,V.renL,List.set_cons_zero,List.set_cons_succ,rho,Nat.reduceAdd,Nat.add_zero]
 refine zStore ⟨?_⟩;refine k3 _ ?_;refine zk ⟨?_⟩;refine v_ret ?_;refine r0 _ ?_;refine zf ⟨?_⟩
 simp only [zE,zL,zO,zN,aStepM,optable,set_some,Nat.reduceEqDiff,reduceIte,Nat.reduceLT,implies_true,forall_const,reduceCtorEq,V.ofValue,V.ofScalar,V.un,V.gd,aLoad,row_mk,Blk.row,PartOK,Go.Vm.part,V.cells,V.noSl,V.noRef,Nat.reduceAdd,Nat.reduceLeDiff,Nat.reduceMul,Tryd.underlying9,Ty.c9,Ty.a9,Tryd.underlying63,Ty.c63,Ty.a63,Tryd.underlying65,Ty.c65,Ty.a65]
 refine ret_viewX ?_
 exact ⟨b8,l8,h8,rfl,rfl⟩
set_option maxHeartbeats 1000000 in
theorem drawLText_con (code:List Int) (hcode:∀x∈code,0≤x∧x≤255) (hcl:code.length≤9223372036854775807):ConX Tryd.prog 63 [.sl (code.map (V.int .u8))] [] (fun r O'=>∃(a:ByteArray) (l:List (ByteArray×Int×Int)),(a.size≤9∧l.length≤18∧∀x∈l,x.1.size≤9)∧r=.agg [.str a,.ref 0]∧O'=[.arr (l.map (fun t:ByteArray×Int×Int=>V.agg [V.str t.1,V.int .i64 t.2.1,V.int .i64 t.2.2])) .flat]):=by
 refine v_conX [.cell 2 65] [] Tryd.func63 rfl rfl rfl (by simp [Tryd.ntmps63]) ?_
 intro Q0 n0 r0
 simp only [Tryd.ntmps63,envFrom,Nat.reduceAdd]
 have T:=Tys.mk (And.intro Ty.t3 (And.intro Ty.t5 (And.intro Ty.t9 (And.intro Ty.t22 (And.intro Ty.t63 (And.intro Ty.t65 Ty.t93))))))
 have F:=Fc.mk True.intro
 refine v_seqR [0,2] ?_;intro K1 k1;refine zAlloc ⟨?_⟩;refine k1 _ ?_;refine zk ⟨?_⟩;refine v_seqR [2] ?_;intro K2 k2;refine zMove ⟨?_⟩;refine v_op ?_;intro K k
 simp only [zE,zM,aStepM,optable,set_some,Nat.reduceEqDiff,reduceIte,Nat.reduceLT,implies_true,forall_const,reduceCtorEq,V.ofValue,V.ofScalar,V.un,V.gd,aExec,lentIds,lendOf,‹Tys _›.h,‹Fc _›.h]
 repeat (refine andC ?_)
 refine aCall_newXA (drawIsLoad_con code hcode hcl) ?_
 rintro _ _ ⟨a0,l0,h0,rfl,rfl⟩
 refine ⟨by first | exact .inl ⟨rfl,by simp [Blk.kindIs,fillK_fd]⟩ | exact .inr (by simp [V.coldIn,V.cold,idx]),?_⟩;refine k _ ?_;clear k K
 simp only [zY,zW,set_some,Nat.reduceEqDiff,reduceIte,rho_one,rho_s,V.ren,V.renL,List.set_cons_zero,List.set_cons_succ,rho,Nat.reduceAdd,Nat.add_zero]
 refine zStore ⟨?_⟩;refine k2 _ ?_;refine zk ⟨?_⟩;refine v_ret ?_;refine r0 _ ?_;refine zf ⟨?_⟩
 simp only [zE,zL,zO,zN,aStepM,optable,set_some,Nat.reduceEqDiff,reduceIte,Nat.reduceLT,implies_true,forall_const,reduceCtorEq,V.ofValue,V.ofScalar,V.un,V.gd,aLoad,row_mk,Blk.row,PartOK,Go.Vm.part,V.cells,V.noSl,V.noRef,Nat.reduceAdd,Nat.reduceLeDiff,Nat.reduceMul,Tryd.underlying9,Ty.c9,Ty.a9,Tryd.underlying63,Ty.c63,Ty.a63,Tryd.underlying65,Ty.c65,Ty.a65]
 refine ret_viewX ?_
 exact ⟨a0,l0,h0,rfl,rfl⟩
set_option maxRecDepth 8000 in
set_option maxHeartbeats 4000000 in
theorem drawFill_con (code:List Int) (hcode:∀x∈code,0≤x∧x≤255) (hcl:code.length≤9223372036854775807):ConX Tryd.prog 49 [.sl (code.map (V.int .u8))] [] (fun r O'=>∃(xa:ByteArray) (xl w:List (ByteArray×Int×Int)) (rest:List (ByteArray×List (ByteArray×Int×Int))),((xa.size≤9∧xl.length≤18∧∀x∈xl,x.1.size≤9)∧(w.length≤18∧∀x∈w,x.1.size≤9)∧(rest.length≤8∧∀x∈rest,x.1.size≤9∧x.2.length≤18∧∀t∈x.2,t.1.size≤9))∧r=.tup [.agg [.str xa,.ref 0],.ref 1,.ref 2]∧O'=[.arr (xl.map (fun t:ByteArray×Int×Int=>V.agg [V.str t.1,V.int .i64 t.2.1,V.int .i64 t.2.2])) .flat,.arr (w.map (fun t:ByteArray×Int×Int=>V.agg [V.str t.1,V.int .i64 t.2.1,V.int .i64 t.2.2])) .flat,.arr (rest.map (fun t:ByteArray×List (ByteArray×Int×Int)=>V.agg [V.str t.1,V.sl (t.2.map (fun t:ByteArray×Int×Int=>V.agg [V.str t.1,V.int .i64 t.2.1,V.int .i64 t.2.2]))])) (fillK rest.length)]):=by
 refine v_conX [.cell 2 65,.tmp 3,.tmp 4] [(114,[0]),(115,[0]),(116,[0]),(131,[0]),(127,[0]),(76,[0,1]),(73,[0]),(75,[0]),(155,[0,1])] Tryd.func49 rfl rfl rfl (by simp [Tryd.ntmps49]) ?_
 intro Q0 n0 r0
 simp only [Tryd.ntmps49,envFrom,Nat.reduceAdd]
 have T:=Tys.mk (And.intro Ty.t3 (And.intro Ty.t4 (And.intro Ty.t5 (And.intro Ty.t9 (And.intro Ty.t22 (And.intro Ty.t63 (And.intro Ty.t65 (And.intro Ty.t66 (And.intro Ty.t93 (And.intro Ty.t95 (And.intro Ty.t96 Ty.t98)))))))))))
 have F:=Fc.mk True.intro
 refine v_seqR [0,2] ?_;intro K1 k1;refine zAlloc ⟨?_⟩;refine zq1 ⟨?_⟩;refine k1 _ ?_;refine zk ⟨?_⟩;refine v_seqR [2,5] ?_;intro K2 k2;refine zMove ⟨?_⟩;refine zBuild ⟨?_⟩;refine zq21 ⟨?_⟩;refine k2 _ ?_;refine zk ⟨?_⟩;refine v_seqR [2,5,6] ?_;intro K3 k3;refine zMove ⟨?_⟩;refine v_op ?_;intro K k
 simp only [zE,zM,aStepM,optable,set_some,Nat.reduceEqDiff,reduceIte,Nat.reduceLT,implies_true,forall_const,reduceCtorEq,V.ofValue,V.ofScalar,V.un,V.gd,aExec,lentIds,lendOf,‹Tys _›.h,‹Fc _›.h]
 repeat (refine andC ?_)
 refine aCall_lentXA (load_con code 0 0 (⟨#[112,49]⟩:ByteArray) (by decide) hcode hcl (by omega)) ?_
 rintro _ _ ⟨b13,l13,a13,s13,h13,k13,rfl,rfl⟩
 refine ⟨_,_,rfl,by first | exact .inr (List.all_eq_true.1 rfl) | exact .inl ⟨rfl,by simp [Blk.kindIs,fillK_fd]⟩,?_⟩;refine k _ ?_;clear k K
 simp only [zY,zW,set_some,Nat.reduceEqDiff,reduceIte,rho_one,rho_s,rho2_s,rho2_0,rho2_1,V.ren,V.renL,List.set_cons_zero,List.set_cons_succ,rho,Nat.reduceAdd,Nat.add_zero]
 refine zq10 ⟨?_⟩;refine k3 _ ?_;refine zk ⟨?_⟩;refine v_join (A:=ByteArray×List (ByteArray×Int×Int)×Int×Int) (fun p=>⟨[(2,.ptr 1 0 0),(5,.ptr 2 0 0),(6,.ptr 4 0 0)],[.arr [] .flat,.box (.agg [.str .empty,.ref 0]) .mix,.box (.agg [.sl (code.map (V.int .u8)),.int .i64 p.2.2.1,.int .u64 p.2.2.2]) .shal,.arr (p.2.1.map (fun t:ByteArray×Int×Int=>V.agg [V.str t.1,V.int .i64 t.2.1,V.int .i64 t.2.2])) .flat,.box (.agg [.str p.1,.ref 3]) .mix],false,42,0⟩) (fun p=>(p.1.size≤9∧p.2.1.length≤18∧∀x∈p.2.1,x.1.size≤9)∧0≤p.2.2.1∧p.2.2.1≤3000) ?_ ?_
 ·intro Q4 n4 e4 r4
  refine v_seqR [2,5,6,15] ?_;intro K5 k5;refine zMove ⟨?_⟩;refine v_op ?_;intro K k
  simp only [zE,zM,aStepM,optable,set_some,Nat.reduceEqDiff,reduceIte,Nat.reduceLT,implies_true,forall_const,reduceCtorEq,V.ofValue,V.ofScalar,V.un,V.gd,aExec,lentIds,lendOf,‹Tys _›.h,‹Fc _›.h]
  repeat (refine andC ?_)
  refine aCall_lentXA (one_con code a13 s13 (24) hcode hcl (by omega)) ?_
  rintro _ _ ⟨v15,a15,s15,h15,k15,rfl,rfl⟩
  refine ⟨_,_,rfl,by first | exact .inr (List.all_eq_true.1 rfl) | exact .inl ⟨rfl,by simp [Blk.kindIs,fillK_fd]⟩,?_⟩;refine k _ ?_;clear k K
  simp only [zY,zW,set_some,Nat.reduceEqDiff,reduceIte,rho_one,rho_s,rho2_s,rho2_0,rho2_1,V.ren,V.renL,List.set_cons_zero,List.set_cons_succ,rho,Nat.reduceAdd,Nat.add_zero]
  refine k5 _ ?_;refine zk ⟨?_⟩;refine v_condS _ rfl ?_ ?_
  ·intro hc0
   refine v_region ?_;intro K7 k7;refine zMove ⟨?_⟩;refine v_op ?_;intro K k
   simp only [zE,zM,aStepM,optable,set_some,Nat.reduceEqDiff,reduceIte,Nat.reduceLT,implies_true,forall_const,reduceCtorEq,V.ofValue,V.ofScalar,V.un,V.gd,aExec,lentIds,lendOf,‹Tys _›.h,‹Fc _›.h]
   repeat (refine andC ?_)
   refine aCall_lentXA (load_con code a15 s15 (⟨#[112,50]⟩:ByteArray) (by decide) hcode hcl (by omega)) ?_
   rintro _ _ ⟨b17,l17,a17,s17,h17,k17,rfl,rfl⟩
   refine ⟨_,_,rfl,by first | exact .inr (List.all_eq_true.1 rfl) | exact .inl ⟨rfl,by simp [Blk.kindIs,fillK_fd]⟩,?_⟩;refine k _ ?_;clear k K
   simp only [zY,zW,set_some,Nat.reduceEqDiff,reduceIte,rho_one,rho_s,rho2_s,rho2_0,rho2_1,V.ren,V.renL,List.set_cons_zero,List.set_cons_succ,rho,Nat.reduceAdd,Nat.add_zero]
   refine zStore ⟨?_⟩;refine k7 _ ?_;refine n4 (b17,l17,a17,s17) _ ?_ ?_
   ·exact ⟨h17,by show 0≤a17∧a17≤3000;omega⟩
   ·exact weak_same [2,5,6] [0,1,4,8,7]
  ·intro hc0
   refine v_skip ?_;refine n4 (b13,l13,a15,s15) _ ?_ ?_
   ·exact ⟨h13,by show 0≤a15∧a15≤3000;omega⟩
   ·exact weak_same [2,5,6] [0,1,4,5,7]
 ·rintro ⟨xa,xl,a1,s1⟩ hok4
  obtain ⟨hxq,ha1⟩:=hok4
  simp only [] at hxq ha1⊢
  refine v_seqR [2,5,6,7] ?_;intro K8 k8
  have F:=Fc.mk True.intro
  refine zMove ⟨?_⟩;refine v_op ?_;intro K k
  simp only [zE,zM,aStepM,optable,set_some,Nat.reduceEqDiff,reduceIte,Nat.reduceLT,implies_true,forall_const,reduceCtorEq,V.ofValue,V.ofScalar,V.un,V.gd,aExec,lentIds,lendOf,‹Tys _›.h,‹Fc _›.h]
  repeat (refine andC ?_)
  refine aCall_lentXA (things_con code a1 s1 hcode hcl (by omega)) ?_
  rintro _ _ ⟨v19,a19,s19,h19,k19,rfl,rfl⟩
  refine ⟨_,_,rfl,by first | exact .inr (List.all_eq_true.1 rfl) | exact .inl ⟨rfl,by simp [Blk.kindIs,fillK_fd]⟩,?_⟩;refine k _ ?_;clear k K
  simp only [zY,zW,set_some,Nat.reduceEqDiff,reduceIte,rho_one,rho_s,rho2_s,rho2_0,rho2_1,V.ren,V.renL,List.set_cons_zero,List.set_cons_succ,rho,Nat.reduceAdd,Nat.add_zero]
  refine zAssign ⟨?_⟩;refine k8 _ ?_;refine zk ⟨?_⟩;refine v_join (A:=List (ByteArray×Int×Int)×Int×Int) (fun p=>⟨[(2,.ptr 1 0 0),(5,.ptr 2 0 0),(6,.ptr 4 0 0),(7,.ref 5)],[.arr [] .flat,.box (.agg [.str .empty,.ref 0]) .mix,.box (.agg [.sl (code.map (V.int .u8)),.int .i64 p.2.1,.int .u64 p.2.2]) .shal,.arr (xl.map (fun t:ByteArray×Int×Int=>V.agg [V.str t.1,V.int .i64 t.2.1,V.int .i64 t.2.2])) .flat,.box (.agg [.str xa,.ref 3]) .mix,.arr (p.1.map (fun t:ByteArray×Int×Int=>V.agg [V.str t.1,V.int .i64 t.2.1,V.int .i64 t.2.2])) .flat],false,42,0⟩) (fun p=>(p.1.length≤18∧∀x∈p.1,x.1.size≤9)∧0≤p.2.1∧p.2.1≤6000) ?_ ?_
  ·intro Q9 n9 e9 r9
   refine v_seqR [2,5,6,7,21] ?_;intro K10 k10;refine zMove ⟨?_⟩;refine v_op ?_;intro K k
   simp only [zE,zM,aStepM,optable,set_some,Nat.reduceEqDiff,reduceIte,Nat.reduceLT,implies_true,forall_const,reduceCtorEq,V.ofValue,V.ofScalar,V.un,V.gd,aExec,lentIds,lendOf,‹Tys _›.h,‹Fc _›.h]
   repeat (refine andC ?_)
   refine aCall_lentXA (one_con code a19 s19 (2) hcode hcl (by omega)) ?_
   rintro _ _ ⟨v21,a21,s21,h21,k21,rfl,rfl⟩
   refine ⟨_,_,rfl,by first | exact .inr (List.all_eq_true.1 rfl) | exact .inl ⟨rfl,by simp [Blk.kindIs,fillK_fd]⟩,?_⟩;refine k _ ?_;clear k K
   simp only [zY,zW,set_some,Nat.reduceEqDiff,reduceIte,rho_one,rho_s,rho2_s,rho2_0,rho2_1,V.ren,V.renL,List.set_cons_zero,List.set_cons_succ,rho,Nat.reduceAdd,Nat.add_zero]
   refine k10 _ ?_;refine zk ⟨?_⟩;refine v_condS _ rfl ?_ ?_
   ·intro hc1
    refine v_seqR [2,5,6,7,23,24] ?_;intro K12 k12;refine zq14 ⟨?_⟩;refine k12 _ ?_;refine zk ⟨?_⟩;refine v_block ?_;intro Q13 n13 x13 e13 r13;refine v_loop (fun q=>⟨[(2,.ptr 1 0 0),(5,.ptr 2 0 0),(6,.ptr 4 0 0),(7,.ref 5),(23,.int .i64 v19.length),(24,.int .i64 (Nat.cast q.1))],[.arr [] .flat,.box (.agg [.str .empty,.ref 0]) .mix,.box (.agg [.sl (code.map (V.int .u8)),.int .i64 a21,.int .u64 s21]) .shal,.arr (xl.map (fun t:ByteArray×Int×Int=>V.agg [V.str t.1,V.int .i64 t.2.1,V.int .i64 t.2.2])) .flat,.box (.agg [.str xa,.ref 3]) .mix,.arr (q.2.map (fun t:ByteArray×Int×Int=>V.agg [V.str t.1,V.int .i64 t.2.1,V.int .i64 t.2.2])) .flat],false,42,0⟩) (fun q=>q.1≤v19.length∧q.2.length=v19.length∧∀x∈q.2,x.1.size≤9) (fun q=>v19.length - q.1) (0,v19) ?_ ?_ ?_
    ·refine weak_bothN [2,5,6,7,23,24] [0,1,2,3,4,5] ⟨?_⟩
     rfl
    ·exact ⟨Nat.zero_le _,rfl,h19.2⟩
    ·rintro ⟨i,w2⟩ hok14 Q14 n14 e14 r14
     obtain ⟨hi1,hwl,hw2⟩:=hok14
     simp only [] at hi1 hwl hw2⊢
     refine v_seqR [2,5,6,7,23,24,25] ?_;intro K15 k15;refine zBinOp ⟨?_⟩;refine k15 _ ?_;refine zk ⟨?_⟩;refine v_seq ?_;intro Q16 n16 e16 r16;refine v_condS _ rfl ?_ ?_
     ·intro hc2
      have hlt:i < w2.length:=by omega
      obtain ⟨⟨x0,x1,x2⟩,hx⟩:∃x:ByteArray×Int×Int,w2[i]? =some x:=⟨w2[i]'(by omega),List.getElem?_eq_getElem (by omega)⟩
      have hxz:=hw2 _ (List.mem_of_getElem? hx)
      simp only [] at hxz
      refine v_skip ?_;refine n16 _ _ (weak_keep [2,5,6,7,23,24] _) ?_;refine zk ⟨?_⟩;refine v_seq ?_;intro Q18 n18 e18 r18;refine v_block ?_;intro Q19 n19 x19 e19 r19;refine v_seqR [2,5,6,7,8,23,24] ?_;intro K20 k20
      have F:=Fc.mk (And.intro (fun f=>getD_map (f:=f) hx) @setat_Thing)
      refine zq19 ⟨?_⟩;refine k20 _ ?_;refine zk ⟨?_⟩;refine v_seqR [2,5,6,7,8,23,24,32] ?_;intro K21 k21;refine zq55 ⟨?_⟩;refine zq49 ⟨?_⟩;refine k21 _ ?_;refine zk ⟨?_⟩;refine v_condS _ rfl ?_ ?_
      ·intro hc3
       refine v_region ?_;intro K23 k23;refine zq55 ⟨?_⟩;refine zq24 ⟨?_⟩;refine k23 _ ?_;refine n19 _ ?_;refine n18 _ _ (weak_keep [2,5,6,7,23,24] _) ?_;refine zk ⟨?_⟩;refine v_region ?_;intro K24 k24;refine zq6 ⟨?_⟩;refine k24 _ ?_;refine n14 _ (i+1,w2.set i (x0,3,x2)) ?_ ?_ ?_
       ·refine weak_bothN [2,5,6,7,23,24] [0,1,2,3,4,5] ⟨?_⟩
        rfl
       ·exact ⟨by show i+1≤v19.length;omega,by show (w2.set i _).length=_;rw [List.length_set];exact hwl,by intro x hx3;rcases List.mem_or_eq_of_mem_set hx3 with q | q;exact hw2 x q;subst q;exact hxz⟩
       ·show _ < _;show v19.length - (i+1) < v19.length - i;omega
      ·intro hc3
       refine v_skip ?_;refine n19 _ ?_;refine n18 _ _ (weak_keep [2,5,6,7,23,24] _) ?_;refine zk ⟨?_⟩;refine v_region ?_;intro K25 k25;refine zq6 ⟨?_⟩;refine k25 _ ?_;refine n14 _ (i+1,w2) ?_ ?_ ?_
       ·refine weak_bothN [2,5,6,7,23,24] [0,1,2,3,4,5] ⟨?_⟩
        rfl
       ·exact ⟨by show i+1≤v19.length;omega,hwl,hw2⟩
       ·show _ < _;show v19.length - (i+1) < v19.length - i;omega
     ·intro hc2
      refine v_exit ?_;refine e16 _ _ ?_;refine e14 _ _ ?_;refine x13 _ ?_;refine n9 (w2,a21,s21) _ ?_ ?_
      ·exact ⟨⟨by show w2.length≤18;omega,hw2⟩,by show 0≤a21∧a21≤6000;omega⟩
      ·exact weak_same [2,5,6,7] [0,1,2,3,4,5]
   ·intro hc1
    refine v_skip ?_;refine n9 (v19,a21,s21) _ ?_ ?_
    ·exact ⟨h19,by show 0≤a21∧a21≤6000;omega⟩
    ·exact weak_same [2,5,6,7] [0,1,2,3,4,5]
  ·rintro ⟨w,a2,s2⟩ hok9
   obtain ⟨hwq,ha2⟩:=hok9
   simp only [] at hwq ha2⊢
   refine v_seq ?_;intro Q26 n26 e26 r26;refine v_draw (by kernel_rfl) ?_;intro K27 q27 k27
   show aAny _ _ _ _ 7 (Array.replicate 7 false) _
   have F:=Fc.mk True.intro
   refine zdMove q27 false 1 39 ?_;refine zdMove q27 true 2 40 ?_;refine aAny_two 0 3 rfl rfl (by kernel_rfl) ?_ ?_
   ·intro K k
    skip
    simp only [zE,zL,zO,zN,aStepM,optable,set_some,Nat.reduceEqDiff,reduceIte,Nat.reduceLT,implies_true,forall_const,reduceCtorEq,V.ofValue,V.ofScalar,V.un,V.gd,aExec,aop,aLoad,row_mk,Blk.row,PartOK,Go.Vm.part,V.cells,V.noSl,V.noRef,Nat.reduceAdd,Nat.reduceLeDiff,Nat.reduceMul,Tryd.underlying9,Ty.c9,Ty.a9,Tryd.underlying63,Ty.c63,Ty.a63,Tryd.underlying65,Ty.c65,Ty.a65]
    repeat (refine And.intro (by first | omega | (intros;omega) | (intros;simp_all;done) | (intros;simp_all;omega)) ?_)
    refine k _ ?_;clear k K;refine aAny_only 3 rfl (by kernel_rfl) ?_;intro K k
    simp only [zE,zM,aStepM,optable,set_some,Nat.reduceEqDiff,reduceIte,Nat.reduceLT,implies_true,forall_const,reduceCtorEq,V.ofValue,V.ofScalar,V.un,V.gd,aExec,lentIds,lendOf,‹Tys _›.h,‹Fc _›.h]
    repeat (refine andC ?_)
    refine aCall_lentXA (loads_con code a2 s2 6 (by omega) hcode hcl (by omega)) ?_
    rintro _ _ ⟨v41,a41,s41,h41,k41,rfl,rfl⟩
    refine ⟨_,_,rfl,by first | exact .inr (List.all_eq_true.1 rfl) | exact .inl ⟨rfl,by simp [Blk.kindIs,fillK_fd]⟩,?_⟩;refine k _ ?_;clear k K
    simp only [zY,zW,set_some,Nat.reduceEqDiff,reduceIte,rho_one,rho_s,rho2_s,rho2_0,rho2_1,V.ren,V.renL,List.set_cons_zero,List.set_cons_succ,rho,Nat.reduceAdd,Nat.add_zero]
    refine zoStore 4 ⟨?_⟩;refine zoAssign 5 ⟨?_⟩;refine zoAssign 6 ⟨?_⟩;refine aAny_done (by kernel_rfl) ?_;refine k27 _ ?_;refine n26 _ _ (weak_keep [2,3,4] _) ?_;refine zk ⟨?_⟩;refine v_ret ?_;refine r0 _ ?_;refine zf ⟨?_⟩
    simp only [zE,zL,zO,zN,aStepM,optable,set_some,Nat.reduceEqDiff,reduceIte,Nat.reduceLT,implies_true,forall_const,reduceCtorEq,V.ofValue,V.ofScalar,V.un,V.gd,aLoad,row_mk,Blk.row,PartOK,Go.Vm.part,V.cells,V.noSl,V.noRef,Nat.reduceAdd,Nat.reduceLeDiff,Nat.reduceMul,Tryd.underlying9,Ty.c9,Ty.a9,Tryd.underlying63,Ty.c63,Ty.a63,Tryd.underlying65,Ty.c65,Ty.a65]
    refine ret_viewX ?_
    exact ⟨xa,xl,w,v41,⟨hxq,hwq,h41⟩,rfl,rfl⟩
   ·intro K k
    skip
    simp only [zE,zM,aStepM,optable,set_some,Nat.reduceEqDiff,reduceIte,Nat.reduceLT,implies_true,forall_const,reduceCtorEq,V.ofValue,V.ofScalar,V.un,V.gd,aExec,lentIds,lendOf,‹Tys _›.h,‹Fc _›.h]
    repeat (refine andC ?_)
    refine aCall_lentXA (loads_con code a2 s2 6 (by omega) hcode hcl (by omega)) ?_
    rintro _ _ ⟨v41,a41,s41,h41,k41,rfl,rfl⟩
    refine ⟨_,_,rfl,by first | exact .inr (List.all_eq_true.1 rfl) | exact .inl ⟨rfl,by simp [Blk.kindIs,fillK_fd]⟩,?_⟩;refine k _ ?_;clear k K
    simp only [zY,zW,set_some,Nat.reduceEqDiff,reduceIte,rho_one,rho_s,rho2_s,rho2_0,rho2_1,V.ren,V.renL,List.set_cons_zero,List.set_cons_succ,rho,Nat.reduceAdd,Nat.add_zero]
    refine zdLoadX q27 true 0 38 ?_;refine zoStore 4 ⟨?_⟩;refine zoAssign 5 ⟨?_⟩;refine zoAssign 6 ⟨?_⟩;refine aAny_done (by kernel_rfl) ?_;refine k27 _ ?_;refine n26 _ _ (weak_keep [2,3,4] _) ?_;refine zk ⟨?_⟩;refine v_ret ?_;refine r0 _ ?_;refine zf ⟨?_⟩
    simp only [zE,zL,zO,zN,aStepM,optable,set_some,Nat.reduceEqDiff,reduceIte,Nat.reduceLT,implies_true,forall_const,reduceCtorEq,V.ofValue,V.ofScalar,V.un,V.gd,aLoad,row_mk,Blk.row,PartOK,Go.Vm.part,V.cells,V.noSl,V.noRef,Nat.reduceAdd,Nat.reduceLeDiff,Nat.reduceMul,Tryd.underlying9,Ty.c9,Ty.a9,Tryd.underlying63,Ty.c63,Ty.a63,Tryd.underlying65,Ty.c65,Ty.a65]
    refine ret_viewX ?_
    exact ⟨xa,xl,w,v41,⟨hxq,hwq,h41⟩,rfl,rfl⟩
end Go.Proofs.YtbameklegpgkfaaDoor
