/- What functions compute. No condition. -/
import Derived.Test.YtmhaafinhpopmaaGreatDoorX27
import Derived.Test.YtmhaafinhpopmaaGreatDoorX25
import Derived.Test.YtmhaafinhpopmaaGreatDoorX17
set_option linter.unusedSimpArgs false
set_option linter.unusedVariables false
set_option linter.defProp false
namespace Go.Proofs.YtmhaafinhpopmaaGreatDoor
open Go Go.Vm
set_option maxHeartbeats 8000000
set_option maxRecDepth 8000 in
theorem l1Read_con (s:ByteArray) (hs:s.size≤1048576):Con Tryz.prog 74 [.str s] [] (.int .i64 (rdN s)) []:=by
 refine v_con [.tmp 2] [] Tryz.func74 rfl rfl rfl (by simp [Tryz.ntmps74]) ?_;intro Q0 n0 r0;simp only [Tryz.ntmps74,envFrom,Nat.reduceAdd];have T:=Tys.mk (ai Ty.t3 (ai Ty.t4 (ai Ty.t5 Ty.t9)));have F:=Fc.mk True.intro;refine yR [0] ⟨?_⟩;refine v_seq ?_;intros;refine v_seqR [0,18] ?_;intro K3 k3;refine zMove ⟨?_⟩;refine zLen ⟨?_⟩;refine zc (l1In_con _ _ _) ⟨?_⟩;refine zq10 ⟨?_⟩;first
 |(refine v_pass 11 4 false rfl (show 11 < 44 by decide) rfl ?_ ?_;(focus first | rfl | (simp only [zV,guardV,Nat.reduceEqDiff,reduceIte];done));simp only [zW,set_some,Nat.reduceEqDiff,reduceIte])
 |skip
  refine v_op ?_;intro K k;simp only [zE,zL,zN,aStepM,optable,set_some,Nat.reduceEqDiff,reduceIte,Nat.reduceLT,implies_true,forall_const,reduceCtorEq,V.ofValue,V.ofScalar,V.un,V.gd,guardV,V.wrap,aExec,aop,aIndex,Int.toNat_natCast,Int.reduceToNat,Nat.reduceAdd,Nat.reduceLeDiff,Nat.reduceMul,Tryz.underlying9];repeat (refine ai (by first | omega | (intro h;simp only [Bool.and_eq_true,Bool.not_eq_true',decide_eq_false_iff_not,decide_eq_true_eq,Bool.not_eq_false',Bool.or_eq_false_iff] at h;omega) | (intros;simp_all;omega)) ?_)
  refine k _ ?_;clear k K
 refine zgBinOp ⟨?_⟩;refine zgMove ⟨?_⟩;refine zgMove ⟨?_⟩;refine zgLen ⟨?_⟩;refine zgBinOp ⟨?_⟩;refine zgPick ⟨?_⟩;refine zPick ⟨?_⟩;refine k3 _ ?_;refine zk ⟨?_⟩;refine v_condS _ rfl ?_ ?_
 ·intro hc0;have hH:rdH s=false:=by
   rw [Bool.eq_false_iff];intro q;simp only [rdH,Bool.and_eq_true,decide_eq_true_eq,Bool.not_eq_true',Bool.and_eq_false_imp,decide_eq_false_iff_not] at q
   by_cases e:byteAt s 0=48<;>simp [e] at hc0 q<;>omega
  refine yR [2] ⟨?_⟩;refine zr ⟨?_⟩;have e:rdN s=-1:=by rw [rdN,if_neg (fun h=>by have:=h.1;rw [hH] at this;cases this)]
  rw [e];exact ret_pure rfl rfl (.inl rfl)
 ·intro hc0;have hH:rdH s=true:=by
   simp only [rdH,Bool.and_eq_true,decide_eq_true_eq,Bool.not_eq_true',Bool.and_eq_false_imp,decide_eq_false_iff_not]
   by_cases e:byteAt s 0=48<;>simp [e] at hc0⊢<;>omega
  have hz:1≤s.size∧s.size≤6:=by
   simp only [rdH,Bool.and_eq_true,decide_eq_true_eq] at hH;exact hH.1
  refine zn [0] ⟨?_⟩;refine yR [0,3] ⟨?_⟩;refine v_seq ?_;intros;refine yR [0,3,4] ⟨?_⟩;refine v_block ?_;intros;refine v_loop (fun i=>⟨[(0,.str s),(3,.int .i64 (valD s i)),(4,.int .i64 (Nat.cast i))],[],false,44,0⟩) (fun i=>i≤s.size∧∀k,k < i→digAt s k=true) (fun i=>s.size - i) 0 ?_ ?_ ?_
  ·refine weak_of [0,3,4] ?_;simp only [keep_mk,keepE_nil,keepE_cons,look_cons,look_nil,Nat.reduceEqDiff,reduceIte];rfl
  ·exact ⟨qld _,fun k h=>absurd h (Nat.not_lt_zero _)⟩
  ·rintro i hok10 Q10 n10 e10 r10;obtain ⟨hi1,hd⟩:=hok10;refine v_seq ?_;intros;refine yR [0,3,4,22] ⟨?_⟩;refine v_condS _ rfl ?_ ?_
   ·intro hc1;have hlt:i < s.size:=by omega
    have hbb:=byteAt_rng s i;have hvb:=valD_bound i hd;have hvp:(10:Int) ^ i≤100000:=pow_le6 (by omega);refine zn [0,3,4] ⟨?_⟩;refine v_seq ?_;intro Q14 n14 e14 r14;refine v_block ?_;intro Q15 n15 x15 e15 r15;refine v_seq ?_;intros;refine v_seqR [0,3,4,34] ?_;intro K17 k17;refine zq4 ⟨?_⟩;refine v_op ?_;intro K k;simp only [zE,zL,zN,aStepM,optable,set_some,Nat.reduceEqDiff,reduceIte,Nat.reduceLT,implies_true,forall_const,reduceCtorEq,V.ofValue,V.ofScalar,V.un,V.gd,aExec,aop,aIndex,Int.toNat_natCast,Int.reduceToNat,Nat.reduceAdd,Nat.reduceLeDiff,Nat.reduceMul,Tryz.underlying9];repeat (refine ai (by first | omega | (intro h;simp only [Bool.and_eq_true,Bool.not_eq_true',decide_eq_false_iff_not,decide_eq_true_eq,Bool.not_eq_false',Bool.or_eq_false_iff] at h;omega) | (intros;simp_all;omega)) ?_)
    refine k _ ?_;clear k K;refine zBinOp ⟨?_⟩;refine zMove ⟨?_⟩;refine zgMove ⟨?_⟩;refine zgMove ⟨?_⟩;first
    |(refine v_pass 32 4 false rfl (show 32 < 44 by decide) rfl ?_ ?_;(focus first | rfl | (simp only [zV,guardV,Nat.reduceEqDiff,reduceIte];done));simp only [zW,set_some,Nat.reduceEqDiff,reduceIte])
    |skip
     refine v_op ?_;intro K k;simp only [zE,zL,zN,aStepM,optable,set_some,Nat.reduceEqDiff,reduceIte,Nat.reduceLT,implies_true,forall_const,reduceCtorEq,V.ofValue,V.ofScalar,V.un,V.gd,guardV,V.wrap,aExec,aop,aIndex,Int.toNat_natCast,Int.reduceToNat,Nat.reduceAdd,Nat.reduceLeDiff,Nat.reduceMul,Tryz.underlying9];repeat (refine ai (by first | omega | (intro h;simp only [Bool.and_eq_true,Bool.not_eq_true',decide_eq_false_iff_not,decide_eq_true_eq,Bool.not_eq_false',Bool.or_eq_false_iff] at h;omega) | (intros;simp_all;omega)) ?_)
     refine k _ ?_;clear k K
    refine zgBinOp ⟨?_⟩;refine zPick ⟨?_⟩;refine k17 _ ?_;refine zk ⟨?_⟩;refine v_condS _ rfl ?_ ?_
    ·intro hc2;have hno:digAt s i=false:=by
      rw [digAt]
      by_cases e:byteAt s i < 48<;>simp [e] at hc2⊢<;>omega
     refine yR [2] ⟨?_⟩;refine zr ⟨?_⟩;have e:rdN s=-1:=by rw [rdN,if_neg (fun h=>by have:=h.2 i hlt;rw [hno] at this;cases this)]
     rw [e];exact ret_pure rfl rfl (.inl rfl)
    ·intro hc2;have hyes:digAt s i=true:=by
      rw [digAt]
      by_cases e:byteAt s i < 48<;>simp [e] at hc2⊢<;>omega
     have hdi:=dig_ok hyes;have hw1:IntKind.u8.wrap (byteAt s i - 48)=byteAt s i - 48:=by rw [IntKind.wrap_u8];omega
     have hw2:IntKind.i64.wrap (byteAt s i - 48)=byteAt s i - 48:=by rw [IntKind.wrap_i64];omega
     refine zn [0,3,4] ⟨?_⟩;refine v_region ?_;intro K20 k20;have F:=Fc.mk (ai hw1 hw2);refine zMove ⟨?_⟩;refine zBinOpW ⟨?_⟩;refine zq4 ⟨?_⟩;refine v_op ?_;intro K k;simp only [zE,zL,zN,aStepM,optable,set_some,Nat.reduceEqDiff,reduceIte,Nat.reduceLT,implies_true,forall_const,reduceCtorEq,V.ofValue,V.ofScalar,V.un,V.gd,aExec,aop,aIndex,Int.toNat_natCast,Int.reduceToNat,Nat.reduceAdd,Nat.reduceLeDiff,Nat.reduceMul,Tryz.underlying9,hw1,hw2];repeat (refine ai (by first | omega | (intro h;simp only [Bool.and_eq_true,Bool.not_eq_true',decide_eq_false_iff_not,decide_eq_true_eq,Bool.not_eq_false',Bool.or_eq_false_iff] at h;omega) | (intros;simp_all;omega)) ?_)
     refine k _ ?_;clear k K;refine zBinOpW ⟨?_⟩;refine zConvert ⟨?_⟩;refine zBinOpW ⟨?_⟩;refine zAssign ⟨?_⟩;refine k20 _ ?_;refine n15 _ ?_;refine n14 _ _ (weak_keep [0,3,4] _) ?_;refine zk ⟨?_⟩;refine yV ⟨?_⟩;refine n10 _ (i+1) ?_ ?_ ?_
     ·refine weak_bothS [0,3,4] [] ⟨?_⟩;rfl
     ·exact ⟨hlt,dig_snoc hd hyes⟩
     ·show _ < _;omega
   ·intro hc1;refine zn [3] ⟨?_⟩;refine yR [2] ⟨?_⟩;refine zr ⟨?_⟩;have hie:i=s.size:=by omega
    subst hie;have e:rdN s=valD s s.size:=by rw [rdN,if_pos ⟨hH,hd⟩]
    rw [e];exact ret_pure rfl rfl (.inl rfl)
set_option maxRecDepth 8000 in
theorem slCut_con (s:ByteArray) (hs:s.size≤1048576):Con Tryz.prog 150 [.str s,.str ⟨#[32]⟩] [] (.tup [.str (cutA s),.str (cutB s),.bool (decide (0≤blk s))]) []:=by
 have hz1:(⟨#[32]⟩:ByteArray).size=1:=rfl;refine v_con [.tmp 4,.tmp 5,.tmp 6] [] Tryz.func150 rfl rfl rfl (by simp [Tryz.ntmps150]) ?_;intro Q0 n0 r0;simp only [Tryz.ntmps150,envFrom,Nat.reduceAdd];have T:=Tys.mk (ai Ty.t3 Ty.t9);have F:=Fc.mk True.intro;rcases blk_case s with ⟨h1,_⟩ | ⟨p,h1,h2,_,_⟩
 ·skip;have hA:cutA s=s:=by rw [cutA,h1];rfl
  have hB:cutB s=⟨#[]⟩:=by rw [cutB,h1];rfl
  have F:=Fc.mk (ai hz1 h1);refine yR [0,1] ⟨?_⟩;refine v_seq ?_;intros;refine yRc [0,1,7] (slIdx32_con s) ⟨?_⟩;refine yR [0,1,7,12] ⟨?_⟩;refine v_cond _ rfl ?_ ?_
  ·intro hc0;exfalso;simp at hc0
  ·intro hc0;try simp only [zC,reduceCtorEq] at hc0
   refine zn [0] ⟨?_⟩;refine yR [4,5,6] ⟨?_⟩;refine zr ⟨?_⟩;rw [hA,hB,h1];exact ret_pure rfl rfl (.inl rfl)
 ·skip;have hA:cutA s=s.extract 0 p:=by rw [cutA,h1,if_pos (by omega),qlq]
  have hB:cutB s=s.extract (p+1) s.size:=by rw [cutB,h1,if_pos (by omega),qlq]
  have hp1:((p:Int)+1).toNat=p+1:=by omega
  have F:=Fc.mk (ai hz1 (ai h1 (ai @qlq hp1)));refine yR [0,1] ⟨?_⟩;refine v_seq ?_;intros;refine yRc [0,1,7] (slIdx32_con s) ⟨?_⟩;refine yR [0,1,7,12] ⟨?_⟩;refine v_cond _ rfl ?_ ?_
  ·intro hc0;try simp only [zC,reduceCtorEq] at hc0
   refine v_seq ?_;intro Q12 n12 e12 r12;refine v_draw (by kernel_rfl) ?_;intro K13 q13 k13;show aAny _ _ _ _ 12 (Array.replicate 12 false) _;refine zdMove q13 true 0 13 ?_;refine zdMove q13 true 1 14 ?_;refine zdSlice q13 true 2 15 ?_;refine zdMove q13 true 3 16 ?_;refine zdMove q13 true 4 17 ?_;refine zdMove q13 true 5 18 ?_;refine zdLen q13 true 6 19 ?_;refine zdBinOpW q13 true 7 20 ?_;refine zdSlice q13 true 8 21 ?_;refine zoAssign 9 ⟨?_⟩;refine zoAssign 10 ⟨?_⟩;refine zoAssign 11 ⟨?_⟩;refine aAny_done (by kernel_rfl) ?_;refine k13 _ ?_;refine n12 _ _ (weak_keep [4,5,6] _) ?_;refine zk ⟨?_⟩;refine zr ⟨?_⟩;rw [hA,hB,h1,decide_eq_true (show (0:Int)≤(p:Int) by omega)];exact ret_pure rfl rfl (.inl rfl)
  ·intro hc0;exfalso;first | (simp at hc0;done) | (simp at hc0;omega)
theorem cut_con (s:ByteArray) (hs:s.size≤1048576):Con Tryz.prog 89 [.str s,.str ⟨#[32]⟩] [] (.tup [.str (cutA s),.str (cutB s),.bool (decide (0≤blk s))]) []:=by
 refine v_con [.tmp 4,.tmp 5,.tmp 6] [] Tryz.func89 rfl rfl rfl (by simp [Tryz.ntmps89]) ?_;intro Q0 n0 r0;simp only [Tryz.ntmps89,envFrom,Nat.reduceAdd];have T:=Tys.mk Ty.t9;have F:=Fc.mk True.intro;refine yR [0,1] ⟨?_⟩;refine yRc [4,5,6] (slCut_con s hs) ⟨?_⟩;refine zr ⟨?_⟩;exact ret_pure rfl rfl (.inl rfl)
set_option maxRecDepth 100000 in
theorem roLine_con (n:Int) (ss:List TS) (fl:List TA) (ins:List TI) (ws:List TW) (s:ByteArray) (hl:fl.length≤1048576) (hil:ins.length≤1048576) (hin:∀x∈ins,x.2.2.2.length≤1048576) (hwl:ws.length≤1048576) (hwn:∀x∈ws,x.2.length≤1048576) (hls:∀t∈fl,t.1.size≤9223372036854775807) (hz:s.size≤1048576) (hB:(ctlB n ss fl ins ws)=true):Con Tryz.prog 81 [.agg [.sl (fl.map (fun t:TA=>V.agg [V.str t.1,V.int .i64 t.2.1,V.int .i64 t.2.2.1,V.int .i64 t.2.2.2.1,V.int .i64 t.2.2.2.2])),.sl (ins.map (fun t:TI=>V.agg [V.int .i64 t.1,V.int .i64 t.2.1,V.bool t.2.2.1,V.sl (t.2.2.2.map V.str)])),.sl (ws.map (fun t:TW=>V.agg [V.int .i64 t.1,V.sl (t.2.map (V.int .i64))]))],.str s] [] (.tup [.agg [.ref 0,.ref 1,.ref 2],.bool (lineB fl s)]) [.arr ((orNil (lineB fl s) (lineF fl ins s)).map (fun t:TA=>V.agg [V.str t.1,V.int .i64 t.2.1,V.int .i64 t.2.2.1,V.int .i64 t.2.2.2.1,V.int .i64 t.2.2.2.2])) .flat,.arr ((orNil (lineB fl s) (lineI ins s)).map (fun t:TI=>V.agg [V.int .i64 t.1,V.int .i64 t.2.1,V.bool t.2.2.1,V.sl (t.2.2.2.map V.str)])) (fillK (orNil (lineB fl s) (lineI ins s)).length),.arr ((orNil (lineB fl s) ws).map (fun t:TW=>V.agg [V.int .i64 t.1,V.sl (t.2.map (V.int .i64))])) (fillK (orNil (lineB fl s) ws).length)]:=by
 refine v_con [.cell 4 67,.tmp 5] [] Tryz.func81 rfl rfl rfl (by simp [Tryz.ntmps81]) ?_;intro Q0 n0 r0;simp only [Tryz.ntmps81,envFrom,Nat.reduceAdd];have T:=Tys.mk (ai Ty.t3 (ai Ty.t4 (ai Ty.t5 (ai Ty.t9 (ai Ty.t35 (ai Ty.t59 (ai Ty.t63 (ai Ty.t64 (ai Ty.t65 (ai Ty.t67 (ai Ty.t154 (ai Ty.t156 Ty.t158))))))))))));have F:=Fc.mk True.intro;rcases words_case s with ⟨hw,_⟩ | ⟨hw,_⟩ | ⟨hw,_⟩
 ·skip;have hsp:Con _ _ _ _ _ [.arr ((words s).map V.str) .flat]:=l1Split_con s 32 (by omega);have hL:(lineB fl s)=false:=by rw [lineB,hw];rfl
  have F:=Fc.mk hw;refine yR [1,2,4] ⟨?_⟩;refine yRc [2,4,6] (hsp) ⟨?_⟩;refine v_seq ?_;intros;refine yR [2,4,6,12] ⟨?_⟩;refine v_cond _ rfl ?_ ?_
  ·intro hc0;try simp only [zC,reduceCtorEq] at hc0
   refine yR [4,5] ⟨?_⟩;refine zq1 ⟨?_⟩;simp only [hL,orNil_f,List.map_nil,List.length_nil,fillK_0];exact rta
  ·intro hc0;exfalso;simp at hc0
 ·skip;have hsp:Con _ _ _ _ _ [.arr ((words s).map V.str) .flat]:=l1Split_con s 32 (by omega);rw [hw] at hsp;simp only [List.map_cons,List.map_nil] at hsp;have hcz:=(cut_sz s hz).2;have F:=Fc.mk True.intro;refine yR [1,2,4] ⟨?_⟩;refine yRc [2,4,6] (hsp) ⟨?_⟩;refine v_seq ?_;intros;refine yR [2,4,6,12] ⟨?_⟩;refine v_cond _ rfl ?_ ?_
  ·intro hc0;exfalso;simp at hc0
  ·intro hc0;try simp only [zC,reduceCtorEq] at hc0
   refine zn [2,4,6] ⟨?_⟩;refine v_seq ?_;intros;refine yR [2,4,6,17] ⟨?_⟩;refine v_condS _ rfl ?_ ?_
   ·intro hc1;have hat:cutB s=(⟨#[97,116]⟩:ByteArray):=by simpa using hc1
    have hL:(lineB fl s)=arrB fl (cutA s):=lineB_at hat;have hF:(lineF fl ins s)=arrF fl ins (cutA s):=if_pos hat;have hI:(lineI ins s)=ins:=if_pos hat;refine v_seq ?_;intro Q15 n15 e15 r15;refine v_draw (by kernel_rfl) ?_;intro K16 q16 k16;show aAny _ _ _ _ 9 (Array.replicate 9 false) _;refine zdLoadX q16 true 0 18 ?_;refine zdMove q16 true 1 19 ?_;refine zdIndexAddr q16 true 2 20 ?_;refine zdLoadX q16 true 3 21 ?_;refine zoc 4 (roArrive_con n ss fl ins ws (cutA s) hl hil hin hwl hwn hB) ⟨?_⟩;refine zdExtract q16 true 5 23 ?_;refine zdExtract q16 true 6 24 ?_;refine zoStore 7 ⟨?_⟩;refine zoAssign 8 ⟨?_⟩;refine aAny_done (by kernel_rfl) ?_;refine k16 _ ?_;refine n15 _ _ (weak_keep [4,5] _) ?_;refine zq5 ⟨?_⟩;rw [hL,hF,hI];exact rta
   ·intro hc1;have hat:cutB s≠(⟨#[97,116]⟩:ByteArray):=by simpa using hc1
    have hL0:(lineB fl s)=(inR (rdN (cutB s)) 0 5 && repB fl (cutA s) (rdN (cutB s))):=by rw [lineB,hw,if_neg hat];rfl
    have hF:(lineF fl ins s)=chgF fl (cutA s) (rdN (cutB s)):=if_neg hat;have hI:(lineI ins s)=repI ins (cutA s) (rdN (cutB s)):=if_neg hat;refine zn [2,4,6] ⟨?_⟩;refine yRc [2,4,6,7] (l1Read_con (cutB s) hcz) ⟨?_⟩;refine v_seq ?_;intros;refine yRc [2,4,6,7,31] (apState_con (rdN (cutB s))) ⟨?_⟩;refine v_condS _ rfl ?_ ?_
    ·intro hc2;have hL:(lineB fl s)=false:=by
      have q:inR (rdN (cutB s)) 0 5=false:=by first | (rw [inR];simpa using hc2) | (simp [inR] at hc2⊢;omega)
      rw [hL0,q];rfl
     refine yR [4,5] ⟨?_⟩;refine zq1 ⟨?_⟩;simp only [hL,orNil_f,List.map_nil,List.length_nil,fillK_0];exact rta
    ·intro hc2;have hL:(lineB fl s)=repB fl (cutA s) (rdN (cutB s)):=by
      have q:inR (rdN (cutB s)) 0 5=true:=by first | (rw [inR];simpa using hc2) | (simp [inR] at hc2⊢;omega)
      rw [hL0,q];rfl
     refine zn [2,4,6,7] ⟨?_⟩;refine v_seq ?_;intro Q22 n22 e22 r22;refine v_draw (by kernel_rfl) ?_;intro K23 q23 k23;show aAny _ _ _ _ 10 (Array.replicate 10 false) _;refine zdLoadX q23 true 0 33 ?_;refine zdMove q23 true 1 34 ?_;refine zdIndexAddr q23 true 2 35 ?_;refine zdLoadX q23 true 3 36 ?_;refine zdMove q23 true 4 37 ?_;refine zoc 5 (roReport_con n ss fl ins ws (cutA s) (rdN (cutB s)) hl hil hin hwl hwn hls hB) ⟨?_⟩;refine zdExtract q23 true 6 39 ?_;refine zdExtract q23 true 7 40 ?_;refine zoStore 8 ⟨?_⟩;refine zoAssign 9 ⟨?_⟩;refine aAny_done (by kernel_rfl) ?_;refine k23 _ ?_;refine n22 _ _ (weak_keep [4,5] _) ?_;refine zq5 ⟨?_⟩;rw [hL,hF,hI];exact rta
 ·skip;have hsp:Con _ _ _ _ _ [.arr ((words s).map V.str) .flat]:=l1Split_con s 32 (by omega);have hL:(lineB fl s)=false:=by rw [lineB,decide_eq_false (by omega)];rfl
  have hwl:(words s).length≤1048577:=by
   have:=split_len s 32 s.size;have:=cntB_le s 32 s.size;rw [words,qlr,List.length_singleton];omega
  have F:=Fc.mk True.intro;refine yR [1,2,4] ⟨?_⟩;refine yRc [2,4,6] (hsp) ⟨?_⟩;refine v_seq ?_;intros;refine yR [2,4,6,12] ⟨?_⟩;refine v_cond _ rfl ?_ ?_
  ·intro hc0;try simp only [zC,reduceCtorEq] at hc0
   refine yR [4,5] ⟨?_⟩;refine zq1 ⟨?_⟩;simp only [hL,orNil_f,List.map_nil,List.length_nil,fillK_0];exact rta
  ·intro hc0;exfalso;first | omega | (simp at hc0;omega)
set_option maxRecDepth 100000 in
theorem specRun_con (n:Int) (ss:List TS) (fl:List TA) (ins:List TI) (ws:List TW) (L:List ByteArray) (hLl:L.length≤1048576) (hLs:∀s∈L,s.size≤1048576) (hs:ss.length≤1048576) (hl:fl.length≤1048576) (hls:∀t∈fl,t.1.size≤9223372036854775807) (hil:ins.length≤1048576) (hin:∀x∈ins,x.2.2.2.length≤1048576) (his:∀x∈ins,∀s∈x.2.2.2,s.size≤9223372036854775807) (hwl:ws.length≤1048576) (hwn:∀x∈ws,x.2.length≤1048576):Con Tryz.prog 31 [.agg [.int .i64 n,.sl (ss.map (fun t:TS=>V.agg [V.int .i64 t.1,V.int .i64 t.2.1,V.int .i64 t.2.2]))],.agg [.sl (fl.map (fun t:TA=>V.agg [V.str t.1,V.int .i64 t.2.1,V.int .i64 t.2.2.1,V.int .i64 t.2.2.2.1,V.int .i64 t.2.2.2.2])),.sl (ins.map (fun t:TI=>V.agg [V.int .i64 t.1,V.int .i64 t.2.1,V.bool t.2.2.1,V.sl (t.2.2.2.map V.str)])),.sl (ws.map (fun t:TW=>V.agg [V.int .i64 t.1,V.sl (t.2.map (V.int .i64))]))],.sl (L.map V.str)] [] (.tup [.agg [.ref 0,.ref 1,.ref 2],.ref 3,.bool (runB n ss fl ins ws L)]) [.arr ((orNil (runB n ss fl ins ws L) (runTo fl ins L L.length).1).map (fun t:TA=>V.agg [V.str t.1,V.int .i64 t.2.1,V.int .i64 t.2.2.1,V.int .i64 t.2.2.2.1,V.int .i64 t.2.2.2.2])) .flat,.arr ((orNil (runB n ss fl ins ws L) (runTo fl ins L L.length).2.1).map (fun t:TI=>V.agg [V.int .i64 t.1,V.int .i64 t.2.1,V.bool t.2.2.1,V.sl (t.2.2.2.map V.str)])) (fillK (orNil (runB n ss fl ins ws L) (runTo fl ins L L.length).2.1).length),.arr ((orNil (runB n ss fl ins ws L) ws).map (fun t:TW=>V.agg [V.int .i64 t.1,V.sl (t.2.map (V.int .i64))])) (fillK (orNil (runB n ss fl ins ws L) ws).length),.arr ((orNil (runB n ss fl ins ws L) (runTo fl ins L L.length).2.2).map (V.int .i64)) .flat]:=by
 refine v_con [.cell 6 67,.tmp 7,.tmp 8] [] Tryz.func31 rfl rfl rfl (by simp [Tryz.ntmps31]) ?_;intro Q0 n0 r0;simp only [Tryz.ntmps31,envFrom,Nat.reduceAdd];have T:=Tys.mk (ai Ty.t3 (ai Ty.t4 (ai Ty.t9 (ai Ty.t35 (ai Ty.t59 (ai Ty.t63 (ai Ty.t64 (ai Ty.t65 (ai Ty.t67 (ai Ty.t70 (ai Ty.t72 (ai Ty.t154 (ai Ty.t156 (ai Ty.t158 Ty.t164))))))))))))));have F:=Fc.mk True.intro;refine yR [2,3,4,6] ⟨?_⟩;refine v_seq ?_;intros;refine yRc [2,4,6,23] (roGood_con n ss fl ins ws hs hl hls hil hin his hwl hwn) ⟨?_⟩;refine v_condS _ rfl ?_ ?_
 ·intro hc0;have hR:(runB n ss fl ins ws L)=false:=by
   rw [runB];cases q:(ctlB n ss fl ins ws) with
   |false=>rfl
   |true=>
    have ht:=ctl_town q;rw [Bool.true_and,decide_eq_false_iff_not];first | (simp [q,ht] at hc0;omega) | (simp [q] at hc0;omega)
  refine yR [6,7,8] ⟨?_⟩;refine zq1 ⟨?_⟩;simp only [hR,orNil_f,List.map_nil,List.length_nil,fillK_0];exact rta
 ·intro hc0;have hB:(ctlB n ss fl ins ws)=true:=by
   cases q:(ctlB n ss fl ins ws) with
   |true=>rfl
   |false=>simp [q] at hc0
  have h40:(L.length:Int)≤40:=by
   have ht:=ctl_town hB;first | (simp [hB,ht] at hc0;omega) | omega
  have hR:(runB n ss fl ins ws L)=true:=by rw [runB,hB,decide_eq_true h40];rfl
  refine zn [2,4,6] ⟨?_⟩;refine yRc [2,6,9] (roOwn_con fl ins ws hl hil hin hwl hwn) ⟨?_⟩;refine yR [2,6,9,10] ⟨?_⟩;refine v_seq ?_;intros;refine yR [6,9,10,27,28,29] ⟨?_⟩;refine v_block ?_;intros;refine v_loop (fun i=>⟨[(6,.ptr 3 0 0),(9,.ptr 7 0 0),(10,.ref 8),(27,.sl (L.map V.str)),(28,.int .i64 L.length),(29,.int .i64 (Nat.cast i))],[.arr [] .flat,.arr [] .flat,.arr [] .flat,.box (.agg [.ref 0,.ref 1,.ref 2]) .mix,.arr ((runTo fl ins L i).1.map (fun t:TA=>V.agg [V.str t.1,V.int .i64 t.2.1,V.int .i64 t.2.2.1,V.int .i64 t.2.2.2.1,V.int .i64 t.2.2.2.2])) .flat,.arr ((runTo fl ins L i).2.1.map (fun t:TI=>V.agg [V.int .i64 t.1,V.int .i64 t.2.1,V.bool t.2.2.1,V.sl (t.2.2.2.map V.str)])) (fillK (runTo fl ins L i).2.1.length),.arr (ws.map (fun t:TW=>V.agg [V.int .i64 t.1,V.sl (t.2.map (V.int .i64))])) (fillK ws.length),.box (.agg [.ref 4,.ref 5,.ref 6]) .mix,.arr ((runTo fl ins L i).2.2.map (V.int .i64)) .flat],false,50,0⟩) (fun i=>i≤L.length) (fun i=>L.length - i) 0 ?_ ?_ ?_
  ·refine weak_bothN [6,9,10,27,28,29] [2,3,4,5,7,8,9,13,14] ⟨?_⟩;rfl
  ·exact qld _
  ·rintro i hok11 Q11 n11 e11 r11;have hi1:i≤L.length:=hok11;refine yR [6,9,10,27,28,29,30] ⟨?_⟩;refine v_seq ?_;intros;refine v_condS _ rfl ?_ ?_
   ·intro hc1;have hlt:i < L.length:=by omega
    obtain ⟨s,hx⟩:∃s,L[i]? =some s:=⟨_,qla hlt⟩;have hnx:=run_next (fl:=fl) (ins:=ins) hx;have hI:=run_inv (L:=L) hB i;obtain ⟨st,hst⟩:∃st,st=runTo fl ins L i:=⟨_,rfl⟩;rw [←hst] at hnx hI;obtain ⟨z1,z2,z3,z4⟩:=ctl_sizesR hI.ok;have hz:=hLs s (qlb hx);have hfl:=hI.len;rw [←hst];refine zn [6,9,10,27,28,29] ⟨?_⟩;refine v_seq ?_;intros;refine v_block ?_;intros;have F:=Fc.mk (gdm hx);refine yR [6,9,10,11,12,27,28,29] ⟨?_⟩;refine yRc [6,9,10,11,13,14,27,28,29] (roLine_con n ss st.1 st.2.1 ws s z1 z3 z4 hwl hwn z2 hz hI.ok) ⟨?_⟩;refine v_seq ?_;intros;refine yR [6,9,10,11,13,27,28,29,41] ⟨?_⟩;refine v_condS _ rfl ?_ ?_
    ·intro hc2;have hL:lineB st.1 s=false:=by simpa using hc2
     have hn:runTo fl ins L (i+1)=(st.1,st.2.1,st.2.2++[(i:Int)]):=by rw [hnx,runStep,if_neg (by rw [hL];decide)]
     have hsn:st.2.2.map (V.int .i64)++[V.int .i64 (i:Int)]=(st.2.2++[(i:Int)]).map (V.int .i64):=by rw [ql3];rfl
     refine yR [6,9,10,27,28,29] ⟨?_⟩;refine zn [6,9,10,27,28,29] ⟨?_⟩;refine yV ⟨?_⟩;refine n11 _ (i+1) ?_ ?_ ?_
     ·refine weak_bothN [6,9,10,27,28,29] [0,1,2,3,4,5,6,7,17] ⟨?_⟩;rw [hn,hsn];rfl
     ·exact hlt
     ·show _ < _;omega
    ·intro hc2;have hL:lineB st.1 s=true:=by simpa using hc2
     have hn:runTo fl ins L (i+1)=(lineF st.1 st.2.1 s,lineI st.2.1 s,st.2.2):=by rw [hnx,runStep,if_pos hL]
     simp only [hL,orNil_t];refine zn [6,9,10,13,27,28,29] ⟨?_⟩;refine yQ [6,9,10,27,28,29] ⟨?_⟩;refine yV ⟨?_⟩;refine n11 _ (i+1) ?_ ?_ ?_
     ·refine weak_bothN [6,9,10,27,28,29] [0,1,2,3,9,10,11,7,8] ⟨?_⟩;rw [hn];rfl
     ·exact hlt
     ·show _ < _;omega
   ·intro hc1;have hie:i=L.length:=by omega
    subst hie;refine zn [6,9,10] ⟨?_⟩;refine yR [6,7,8] ⟨?_⟩;refine zq1 ⟨?_⟩;simp only [hR,orNil_t];exact rta
end Go.Proofs.YtmhaafinhpopmaaGreatDoor
