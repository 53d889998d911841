/- What functions compute. No condition. -/
import Derived.Test.YtmhaafinhpopmaaGreatDoorX7
set_option linter.unusedSimpArgs false
set_option linter.unusedVariables false
set_option linter.defProp false
namespace Go.Proofs.YtmhaafinhpopmaaGreatDoor
open Go Go.Vm
set_option maxHeartbeats 8000000
section
open Go.RowKit
theorem tabsIn_below {w w1:World} {l:List (Nat×(Array Value→Prop))} (h:TabsIn w l) (hb:Below w.heap.size w w1):TabsIn w1 l:=fun p hp=>by
  obtain ⟨c,t,fr,e,q⟩:=h p hp;have hlt:p.1 < w.heap.size:=by
    rcases qlp p.1 w.heap.size with z | z
    · exact z
    · rw [Array.getElem?_eq_none z] at e;cases e
  exact ⟨c,t,fr,(hb.block p.1 hlt).trans e,q⟩
theorem con_str1B {P:Program} {f:FuncId} {a:ByteArray} {r:V} {rv:Value} (hf:∃fn,P.funcs[f]? =some fn∧(fn.name == "runtime.NumGoroutine")=false∧fn.body.isNone=false) (hr:∀w μ,Rep w μ r rv [])
    (h:∀w,TabsIn w (tabsOf P)→Calls P f #[.string a] w fun e w'=>e=.returned rv∧Below w.heap.size w w'):Con P f [.str a] [] r []:=by
  refine ⟨hf,fun w vals μ ow vis hi=> ?_⟩;have h0:vals.getD 0 undef=.string a:=by
    obtain ⟨bl,r0,_⟩:=hi.arg 0 _ rfl;generalize vals.getD 0 undef=x at r0⊢;cases r0;rfl
  have hs:vals.size=1:=hi.sz;have hv:vals=#[.string a]:=by
    apply Array.ext
    · simpa using hs
    · intro i hi1 hi2
      have hi3:i < 1:=by simpa using hi2
      have e:vals.getD i undef=vals[i]:=by simp [Array.getD,hi1]
      have:i=0:=by omega
      subst this;rw [←e,h0];rfl
  subst hv;refine (h w fun p hp=>(hi.tab p hp).2).mono ?_;rintro e w' ⟨rfl,hb⟩;have hold:∀b,b < w.heap.size→w'.heap[b]? =w.heap[b]? :=fun b hlt=>hb.block b hlt
  exact ⟨rv,μ,ow,rfl,⟨⟨[],hr _ _,by simp⟩,by simp,by simp,MLe.refl _,qlf _,hi.dom,fun b hb'=>(hi.owl b hb').keep (hold b (hi.owl b hb').lt),fun b hb=>.inl hb,
    ⟨hb.size,fun b hlt _=>hold b hlt,hb.os,hb.tape,hb.output,fun x hx=>by simp only [World.frozen?,hold x.block hx],fun _ hp=>nomatch hp⟩⟩⟩
theorem itoa_beq (l:List UInt8) (s:ByteArray):(l == s.toList)=decide ((⟨l.toArray⟩:ByteArray)=s):=by
  rw [ByteArray.toList_eq,Bool.eq_iff_iff,beq_iff_eq,decide_eq_true_eq];constructor
  · intro h;subst h;rfl
  · intro h;subst h;rfl
theorem rd_calls (s:ByteArray) (hs:s.size≤1048576) (w:World) (hw:TabsIn w (tabsOf Tryz.prog)):Calls Tryz.prog 90 #[.string s] w fun e w'=>e=.returned (.tuple #[.int .i64 (rdV s),.bool (rdB s)])∧Below w.heap.size w w':=by
  cases hq:Lib.atoiAll s.data.toList with
  | ok v=>
    have hV:rdV s=v:=by unfold rdV;rw [hq]
    have hB:rdB s=(Lib.itoa v == s.toList):=by unfold rdB;rw [hq,itoa_beq];rfl
    rw [hV,hB];obtain ⟨hv0,hv1⟩:=Lib.atoiAll_bounds hq;have cA:=Tryz.strconv_Atoi_ok s (by omega) v hq w
    go_enter Tryz.func90,Tryz.ntmps90
    go_wp2_with (go_at_call 151;go_fit cA;rintro e w1 ⟨rfl,hw1⟩)
    have hb1:Below w.heap.size w w1:=by
      rcases hw1 with rfl | ⟨t,rfl⟩
      · exact Below.refl _ _
      · exact Lib.bytesWorld_below _ _ _
    have hI:=Tryz.strconv_Itoa v hv0 hv1 w1 (tabIs_of rfl (tabsIn_below hw hb1))
    go_wp2_with (go_at_call 152;go_fit hI;rintro e w2 ⟨rfl,k2,os2,rfl⟩)
    go_ret2
    refine ⟨rfl,hb1.trans ⟨rfl,rfl,rfl,?_,fun b hb=>Sort.heap_grow_old (w1.drewN k2) os2 (ql7 hb hb1.size)⟩⟩;rw [Sort.size_grow];exact Nat.le_add_right _ _
  | range=>
    have hV:rdV s=Lib.atoiSat s.data.toList:=by unfold rdV;rw [hq]
    have hB:rdB s=false:=by unfold rdB;rw [hq]
    rw [hV,hB];obtain ⟨c,t,fr,hc1,te,pe,hc2⟩:=tabs_rng hw (g:=2) rfl;have hcell:w.cell? ⟨2,0,none⟩=some (.iface te pe):=by simp only [World.cell?,hc1];subst hc2;rfl
    have cA:=Tryz.strconv_Atoi_range s (by omega) hq _ w hcell (.inr ⟨te,pe,rfl⟩)
    go_enter Tryz.func90,Tryz.ntmps90
    go_wp2_with (go_at_call 151;go_fit cA;rintro e w1 ⟨N,rfl,_,_,hb1⟩)
    go_ret2
    exact ⟨rfl,hb1⟩
  | _=>
    have hV:rdV s=0:=by unfold rdV;rw [hq]
    have hB:rdB s=false:=by unfold rdB;rw [hq]
    rw [hV,hB];obtain ⟨c,t,fr,hc1,te,pe,hc2⟩:=tabs_syn hw (g:=1) rfl;have hcell:w.cell? ⟨1,0,none⟩=some (.iface te pe):=by simp only [World.cell?,hc1];subst hc2;rfl
    have cA:=Tryz.strconv_Atoi_syntax s (by omega) hq _ w hcell (.inr ⟨te,pe,rfl⟩)
    go_enter Tryz.func90,Tryz.ntmps90
    go_wp2_with (go_at_call 151;go_fit cA;rintro e w1 ⟨N,rfl,_,_,hb1⟩)
    go_ret2
    exact ⟨rfl,hb1⟩
theorem readNumber_con (s:ByteArray) (hs:s.size≤1048576):Con Tryz.prog 90 [.str s] [] (.tup [.int .i64 (rdV s),.bool (rdB s)]) []:=
  con_str1B ⟨_,Tryz.func90,rfl,rfl⟩ (fun w μ=>.tup _ _ [] (.cons _ _ [] _ _ [] (.int _ _) (.cons _ _ [] _ _ [] (.bool _) .nil))) (fun w hw=>rd_calls s hs w hw)
end
set_option maxRecDepth 8000 in
theorem l1Read_con (s:ByteArray) (hs:s.size≤1048576):Con Tryz.prog 74 [.str s] [] (.int .i64 (rdN s)) []:=by
 refine v_con [.tmp 2] [] Tryz.func74 rfl rfl rfl (by simp [Tryz.ntmps74]) ?_;intro Q0 n0 r0;simp only [Tryz.ntmps74,envFrom,Nat.reduceAdd];have T:=Tys.mk (ai Ty.t3 (ai Ty.t4 (ai Ty.t5 Ty.t9)));have F:=Fc.mk True.intro;refine yR [0] ⟨?_⟩;refine v_seq ?_;intros;refine v_seqR [0,18] ?_;intro K3 k3;refine zMove ⟨?_⟩;refine zLen ⟨?_⟩;refine zc (l1In_con _ _ _) ⟨?_⟩;refine zUnOp ⟨?_⟩;refine zMove ⟨?_⟩;refine zgMove ⟨?_⟩;first
 |(refine v_pass 11 4 false rfl (show 11 < 44 by decide) rfl ?_ ?_;(focus first | rfl | (simp only [zV,guardV,Nat.reduceEqDiff,reduceIte];done));simp only [zW,set_some,Nat.reduceEqDiff,reduceIte])
 |skip
  refine v_op ?_;intro K k;simp only [zE,zL,zN,aStepM,optable,set_some,Nat.reduceEqDiff,reduceIte,Nat.reduceLT,implies_true,forall_const,reduceCtorEq,V.ofValue,V.ofScalar,V.un,V.gd,guardV,V.wrap,aExec,aop,aIndex,Int.toNat_natCast,Int.reduceToNat,Nat.reduceAdd,Nat.reduceLeDiff,Nat.reduceMul,Tryz.underlying9];repeat (refine ai (by first | omega | (intro h;simp only [Bool.and_eq_true,Bool.not_eq_true',decide_eq_false_iff_not,decide_eq_true_eq,Bool.not_eq_false',Bool.or_eq_false_iff] at h;omega) | (intros;simp_all;omega)) ?_)
  refine k _ ?_;clear k K
 refine zgBinOp ⟨?_⟩;refine zgMove ⟨?_⟩;refine zgMove ⟨?_⟩;refine zgLen ⟨?_⟩;refine zgBinOp ⟨?_⟩;refine zgPick ⟨?_⟩;refine zPick ⟨?_⟩;refine k3 _ ?_;refine zk ⟨?_⟩;refine v_condS _ rfl ?_ ?_
 ·intro hc0;have hH:rdH s=false:=by
   rw [Bool.eq_false_iff];intro q;simp only [rdH,Bool.and_eq_true,decide_eq_true_eq,Bool.not_eq_true',Bool.and_eq_false_imp,decide_eq_false_iff_not] at q
   by_cases e:byteAt s 0=48<;>simp [e] at hc0 q<;>omega
  refine yR [2] ⟨?_⟩;refine zr ⟨?_⟩;have e:rdN s=-1:=by rw [rdN,if_neg (fun h=>by have:=h.1;rw [hH] at this;cases this)]
  rw [e];exact ret_pure rfl rfl (.inl rfl)
 ·intro hc0;have hH:rdH s=true:=by
   simp only [rdH,Bool.and_eq_true,decide_eq_true_eq,Bool.not_eq_true',Bool.and_eq_false_imp,decide_eq_false_iff_not]
   by_cases e:byteAt s 0=48<;>simp [e] at hc0⊢<;>omega
  have hz:1≤s.size∧s.size≤6:=by
   simp only [rdH,Bool.and_eq_true,decide_eq_true_eq] at hH;exact hH.1
  refine zn [0] ⟨?_⟩;refine yR [0,3] ⟨?_⟩;refine v_seq ?_;intros;refine yR [0,3,4] ⟨?_⟩;refine v_block ?_;intros;refine v_loop (fun i=>⟨[(0,.str s),(3,.int .i64 (valD s i)),(4,.int .i64 (Nat.cast i))],[],false,44,0⟩) (fun i=>i≤s.size∧∀k,k < i→digAt s k=true) (fun i=>s.size - i) 0 ?_ ?_ ?_
  ·refine weak_of [0,3,4] ?_;simp only [keep_mk,keepE_nil,keepE_cons,look_cons,look_nil,Nat.reduceEqDiff,reduceIte];rfl
  ·exact ⟨qlo _,fun k h=>absurd h (Nat.not_lt_zero _)⟩
  ·rintro i hok10 Q10 n10 e10 r10;obtain ⟨hi1,hd⟩:=hok10;refine v_seq ?_;intros;refine yR [0,3,4,22] ⟨?_⟩;refine v_condS _ rfl ?_ ?_
   ·intro hc1;have hlt:i < s.size:=by omega
    have hbb:=byteAt_rng s i;have hvb:=valD_bound i hd;have hvp:(10:Int) ^ i≤100000:=pow_le6 (by omega);refine zn [0,3,4] ⟨?_⟩;refine v_seq ?_;intro Q14 n14 e14 r14;refine v_block ?_;intro Q15 n15 x15 e15 r15;refine v_seq ?_;intros;refine v_seqR [0,3,4,34] ?_;intro K17 k17;refine zq2 ⟨?_⟩;refine v_op ?_;intro K k;simp only [zE,zL,zN,aStepM,optable,set_some,Nat.reduceEqDiff,reduceIte,Nat.reduceLT,implies_true,forall_const,reduceCtorEq,V.ofValue,V.ofScalar,V.un,V.gd,aExec,aop,aIndex,Int.toNat_natCast,Int.reduceToNat,Nat.reduceAdd,Nat.reduceLeDiff,Nat.reduceMul,Tryz.underlying9];repeat (refine ai (by first | omega | (intro h;simp only [Bool.and_eq_true,Bool.not_eq_true',decide_eq_false_iff_not,decide_eq_true_eq,Bool.not_eq_false',Bool.or_eq_false_iff] at h;omega) | (intros;simp_all;omega)) ?_)
    refine k _ ?_;clear k K;refine zBinOp ⟨?_⟩;refine zMove ⟨?_⟩;refine zgMove ⟨?_⟩;refine zgMove ⟨?_⟩;first
    |(refine v_pass 32 4 false rfl (show 32 < 44 by decide) rfl ?_ ?_;(focus first | rfl | (simp only [zV,guardV,Nat.reduceEqDiff,reduceIte];done));simp only [zW,set_some,Nat.reduceEqDiff,reduceIte])
    |skip
     refine v_op ?_;intro K k;simp only [zE,zL,zN,aStepM,optable,set_some,Nat.reduceEqDiff,reduceIte,Nat.reduceLT,implies_true,forall_const,reduceCtorEq,V.ofValue,V.ofScalar,V.un,V.gd,guardV,V.wrap,aExec,aop,aIndex,Int.toNat_natCast,Int.reduceToNat,Nat.reduceAdd,Nat.reduceLeDiff,Nat.reduceMul,Tryz.underlying9];repeat (refine ai (by first | omega | (intro h;simp only [Bool.and_eq_true,Bool.not_eq_true',decide_eq_false_iff_not,decide_eq_true_eq,Bool.not_eq_false',Bool.or_eq_false_iff] at h;omega) | (intros;simp_all;omega)) ?_)
     refine k _ ?_;clear k K
    refine zgBinOp ⟨?_⟩;refine zPick ⟨?_⟩;refine k17 _ ?_;refine zk ⟨?_⟩;refine v_condS _ rfl ?_ ?_
    ·intro hc2;have hno:digAt s i=false:=by
      rw [digAt]
      by_cases e:byteAt s i < 48<;>simp [e] at hc2⊢<;>omega
     refine yR [2] ⟨?_⟩;refine zr ⟨?_⟩;have e:rdN s=-1:=by rw [rdN,if_neg (fun h=>by have:=h.2 i hlt;rw [hno] at this;cases this)]
     rw [e];exact ret_pure rfl rfl (.inl rfl)
    ·intro hc2;have hyes:digAt s i=true:=by
      rw [digAt]
      by_cases e:byteAt s i < 48<;>simp [e] at hc2⊢<;>omega
     have hdi:=dig_ok hyes;have hw1:IntKind.u8.wrap (byteAt s i - 48)=byteAt s i - 48:=by rw [IntKind.wrap_u8];omega
     have hw2:IntKind.i64.wrap (byteAt s i - 48)=byteAt s i - 48:=by rw [IntKind.wrap_i64];omega
     refine zn [0,3,4] ⟨?_⟩;refine v_region ?_;intro K20 k20;have F:=Fc.mk (ai hw1 hw2);refine zMove ⟨?_⟩;refine zBinOpW ⟨?_⟩;refine zq2 ⟨?_⟩;refine v_op ?_;intro K k;simp only [zE,zL,zN,aStepM,optable,set_some,Nat.reduceEqDiff,reduceIte,Nat.reduceLT,implies_true,forall_const,reduceCtorEq,V.ofValue,V.ofScalar,V.un,V.gd,aExec,aop,aIndex,Int.toNat_natCast,Int.reduceToNat,Nat.reduceAdd,Nat.reduceLeDiff,Nat.reduceMul,Tryz.underlying9,hw1,hw2];repeat (refine ai (by first | omega | (intro h;simp only [Bool.and_eq_true,Bool.not_eq_true',decide_eq_false_iff_not,decide_eq_true_eq,Bool.not_eq_false',Bool.or_eq_false_iff] at h;omega) | (intros;simp_all;omega)) ?_)
     refine k _ ?_;clear k K;refine zBinOpW ⟨?_⟩;refine zConvert ⟨?_⟩;refine zBinOpW ⟨?_⟩;refine zAssign ⟨?_⟩;refine k20 _ ?_;refine n15 _ ?_;refine n14 _ _ (weak_keep [0,3,4] _) ?_;refine zk ⟨?_⟩;refine yV ⟨?_⟩;refine n10 _ (i+1) ?_ ?_ ?_
     ·refine weak_bothS [0,3,4] [] ⟨?_⟩;rfl
     ·exact ⟨hlt,dig_snoc hd hyes⟩
     ·show _ < _;omega
   ·intro hc1;refine zn [3] ⟨?_⟩;refine yR [2] ⟨?_⟩;refine zr ⟨?_⟩;have hie:i=s.size:=by omega
    subst hie;have e:rdN s=valD s s.size:=by rw [rdN,if_pos ⟨hH,hd⟩]
    rw [e];exact ret_pure rfl rfl (.inl rfl)
end Go.Proofs.YtmhaafinhpopmaaGreatDoor
