/- What functions compute. No condition. -/
import Derived.Test.YtaefoaghpehbpaaGreatDoorUz
import Derived.Test.YtaefoaghpehbpaaGreatDoorUty
import Derived.Test.YtaefoaghpehbpaaGreatDoorUmG
import Derived.Test.YtaefoaghpehbpaaGreatDoorX30
import Derived.Test.YtaefoaghpehbpaaGreatDoorX29
import Derived.Test.YtaefoaghpehbpaaGreatDoorX27
import Derived.Test.YtaefoaghpehbpaaGreatDoorX25
import Derived.Test.YtaefoaghpehbpaaGreatDoorX1
import Derived.Test.YtaefoaghpehbpaaGreatDoorX5
import Derived.Test.YtaefoaghpehbpaaGreatDoorX10
import Derived.Test.YtaefoaghpehbpaaGreatDoorX28
set_option linter.unusedSimpArgs false
set_option linter.unusedVariables false
set_option linter.defProp false
namespace Go.Proofs.YtaefoaghpehbpaaGreatDoor
open Go Go.Vm
set_option maxHeartbeats 8000000
def lineB (fl:List TA) (s:ByteArray):Bool:=decide ((words s).length=2) && (if cutB s=(⟨#[97,116]⟩:ByteArray) then arrB fl (cutA s) else inR (rdN (cutB s)) 0 5 && repB fl (cutA s) (rdN (cutB s)))
def lineF (fl:List TA) (ins:List TI) (s:ByteArray):List TA:=if cutB s=(⟨#[97,116]⟩:ByteArray) then arrF fl ins (cutA s) else chgF fl (cutA s) (rdN (cutB s))
def lineI (ins:List TI) (s:ByteArray):List TI:=if cutB s=(⟨#[97,116]⟩:ByteArray) then ins else repI ins (cutA s) (rdN (cutB s))
theorem inR_05 {x:Int}:inR x 0 5=true↔0≤x∧x≤5:=by simp [inR]
theorem line_at {s:ByteArray} (h:cutB s=(⟨#[97,116]⟩:ByteArray)):words s=[cutA s,cutB s]:=by
  rcases words_case s with ⟨_,h2⟩ | ⟨h1,_⟩ | ⟨_,k,h2,h3⟩
  · rw [h] at h2;exact absurd h2.symm rd_empty.2
  · exact h1
  · exact absurd h (rd_blank h2 h3).2
theorem lineB_at {fl:List TA} {s:ByteArray} (h:cutB s=(⟨#[97,116]⟩:ByteArray)):lineB fl s=arrB fl (cutA s):=by rw [lineB,line_at h,if_pos h];rfl
theorem rep_05 {fl:List TA} {s:ByteArray} {t:Int} (h:¬(0≤t∧t≤5)):repB fl s t=false:=by
  have:(decide (0≤t) && decide (t≤5))=false:=by
    rw [Bool.eq_false_iff];intro e;simp only [Bool.and_eq_true,decide_eq_true_eq] at e;exact h e
  rw [repB,chgB,this];simp
theorem line_num {fl:List TA} {s:ByteArray} (h:cutB s≠(⟨#[97,116]⟩:ByteArray)) (hb:rdB (cutB s)=true):lineB fl s=repB fl (cutA s) (rdV (cutB s))∧(lineB fl s=true→rdN (cutB s)=rdV (cutB s)):=by
  have hw:words s=[cutA s,cutB s]:=by
    rcases words_case s with ⟨_,h2⟩ | ⟨h1,_⟩ | ⟨_,k,h2,h3⟩
    · rw [h2,rd_empty.1] at hb;cases hb
    · exact h1
    · rw [(rd_blank h2 h3).1] at hb;cases hb
  rw [lineB,hw,if_neg h]
  by_cases hv:0≤rdN (cutB s)∧rdN (cutB s)≤5
  · rw [(rd_yes hv).2,inR_05.2 hv]
    exact ⟨rfl,fun _=>rfl⟩
  · have:inR (rdN (cutB s)) 0 5=false:=by rw [Bool.eq_false_iff];exact fun e=>hv (inR_05.1 e)
    rw [this,rep_05 (rd_no hv hb)]
    exact ⟨rfl,fun e=>nomatch e⟩
theorem line_no {fl:List TA} {s:ByteArray} (h:cutB s≠(⟨#[97,116]⟩:ByteArray)) (hb:rdB (cutB s)=false):lineB fl s=false:=by
  rw [lineB,if_neg h]
  have:inR (rdN (cutB s)) 0 5=false:=by
    rw [Bool.eq_false_iff];intro e
    rw [(rd_yes (inR_05.1 e)).1] at hb;cases hb
  rw [this];simp
abbrev RunT:=List TA×List TI×List Int
def runStep (st:RunT) (i:Nat) (s:ByteArray):RunT:=if lineB st.1 s=true then (lineF st.1 st.2.1 s,lineI st.2.1 s,st.2.2) else (st.1,st.2.1,st.2.2++[(i:Int)])
def runTo (fl:List TA) (ins:List TI) (L:List ByteArray):Nat→RunT
  | 0=>(fl,ins,[])
  | i+1=>match L[i]? with | some s=>runStep (runTo fl ins L i) i s | none=>runTo fl ins L i
theorem run_next {fl:List TA} {ins:List TI} {L:List ByteArray} {i:Nat} {s:ByteArray} (h:L[i]? =some s):runTo fl ins L (i+1)=runStep (runTo fl ins L i) i s:=by rw [runTo,h]
theorem line_keep {n:Int} {ss:List TS} {fl:List TA} {ins:List TI} {ws:List TW} {s:ByteArray} (hB:ctlB n ss fl ins ws=true) (h:lineB fl s=true):ctlB n ss (lineF fl ins s) (lineI ins s) ws=true:=by
  rw [lineB,Bool.and_eq_true] at h
  have h2:=h.2
  by_cases e:cutB s=(⟨#[97,116]⟩:ByteArray)
  · rw [if_pos e] at h2
    rw [lineF,lineI,if_pos e,if_pos e];exact arr_keep hB h2
  · rw [if_neg e,Bool.and_eq_true] at h2
    rw [lineF,lineI,if_neg e,if_neg e];exact rep_keep hB h2.2
structure RunInv (n:Int) (ss:List TS) (ws:List TW) (i:Nat) (st:RunT):Prop where
  ok:ctlB n ss st.1 st.2.1 ws=true
  len:st.2.2.length≤i
theorem run_inv {n:Int} {ss:List TS} {fl:List TA} {ins:List TI} {ws:List TW} {L:List ByteArray} (hB:ctlB n ss fl ins ws=true):∀i,RunInv n ss ws i (runTo fl ins L i)
  | 0=>⟨hB,Nat.le_refl _⟩
  | i + 1=>by
    have h:=run_inv (L:=L) hB i
    rw [runTo]
    split
    · rename_i s hs
      rw [runStep]
      split
      · rename_i q
        exact ⟨line_keep h.ok q,Nat.le_succ_of_le h.len⟩
      · refine ⟨h.ok,?_⟩
        simp only [List.length_append,List.length_singleton]
        have:=h.len;omega
    · exact ⟨h.ok,Nat.le_succ_of_le h.len⟩
def runB (n:Int) (ss:List TS) (fl:List TA) (ins:List TI) (ws:List TW) (L:List ByteArray):Bool:=ctlB n ss fl ins ws && decide ((L.length:Int)≤40)
theorem ctl_sizesR {n:Int} {ss:List TS} {fl:List TA} {ins:List TI} {ws:List TW} (hB:ctlB n ss fl ins ws=true):fl.length≤1048576∧(∀t∈fl,t.1.size≤9223372036854775807)∧ins.length≤1048576∧(∀x∈ins,x.2.2.2.length≤1048576):=by
  have h:=(ctl_iff ..).1 hB
  have h1:=h.fl12
  have h2:=h.inc.len
  refine ⟨by omega,fun t ht=> ?_,by omega,fun x hx=> ?_⟩
  · have:=h.ap t ht
    simp only [apOK,Bool.and_eq_true] at this
    have h3:=this.1.1.1.1
    simp only [nameB,Bool.and_eq_true,decide_eq_true_eq] at h3
    omega
  · have:=(h.inc.each x hx).len;omega
set_option maxRecDepth 8000 in
theorem l1Read_con (s:ByteArray) (hs:s.size≤1048576):Con Tryz.prog 148 [.str s] [] (.int .i64 (rdN s)) []:=by
 refine v_con [.tmp 2] [] Tryz.func148 rfl rfl rfl (by simp [Tryz.ntmps148]) ?_
 intro Q0 n0 r0
 simp only [Tryz.ntmps148,envFrom,Nat.reduceAdd]
 have T:=Tys.mk (ai Ty.t3 (ai Ty.t4 (ai Ty.t5 Ty.t9)))
 have F:=Fc.mk True.intro
 refine yR [0] ⟨?_⟩;refine v_seq ?_;intros;refine v_seqR [0,18] ?_;intro K3 k3;refine zMove ⟨?_⟩;refine zLen ⟨?_⟩;refine zc (l1In_con _ _ _) ⟨?_⟩;refine zq10 ⟨?_⟩
 first
 |(refine v_pass 11 4 false rfl (show 11 < 44 by decide) rfl ?_ ?_;(focus first | rfl | (simp only [zV,guardV,Nat.reduceEqDiff,reduceIte];done));simp only [zW,set_some,Nat.reduceEqDiff,reduceIte])
 |skip
  refine v_op ?_;intro K k
  simp only [zE,zL,zN,aStepM,optable,set_some,Nat.reduceEqDiff,reduceIte,Nat.reduceLT,implies_true,forall_const,reduceCtorEq,V.ofValue,V.ofScalar,V.un,V.gd,guardV,V.wrap,aExec,aop,aIndex,Int.toNat_natCast,Int.reduceToNat,Nat.reduceAdd,Nat.reduceLeDiff,Nat.reduceMul,Tryz.underlying9]
  repeat (refine ai (by first | omega | (intro h;simp only [Bool.and_eq_true,Bool.not_eq_true',decide_eq_false_iff_not,decide_eq_true_eq,Bool.not_eq_false',Bool.or_eq_false_iff] at h;omega) | (intros;simp_all;omega)) ?_)
  refine k _ ?_;clear k K
 refine zgBinOp ⟨?_⟩;refine zgMove ⟨?_⟩;refine zgMove ⟨?_⟩;refine zgLen ⟨?_⟩;refine zgBinOp ⟨?_⟩;refine zgPick ⟨?_⟩;refine zPick ⟨?_⟩;refine k3 _ ?_;refine zk ⟨?_⟩;refine v_condS _ rfl ?_ ?_
 ·intro hc0
  have hH:rdH s=false:=by
   rw [Bool.eq_false_iff];intro q
   simp only [rdH,Bool.and_eq_true,decide_eq_true_eq,Bool.not_eq_true',Bool.and_eq_false_imp,decide_eq_false_iff_not] at q
   by_cases e:byteAt s 0=48<;>simp [e] at hc0 q<;>omega
  refine yR [2] ⟨?_⟩;refine zr ⟨?_⟩
  have e:rdN s=-1:=by rw [rdN,if_neg (fun h=>by have:=h.1;rw [hH] at this;cases this)]
  rw [e]
  exact ret_pure rfl rfl (.inl rfl)
 ·intro hc0
  have hH:rdH s=true:=by
   simp only [rdH,Bool.and_eq_true,decide_eq_true_eq,Bool.not_eq_true',Bool.and_eq_false_imp,decide_eq_false_iff_not]
   by_cases e:byteAt s 0=48<;>simp [e] at hc0⊢<;>omega
  have hz:1≤s.size∧s.size≤6:=by
   simp only [rdH,Bool.and_eq_true,decide_eq_true_eq] at hH;exact hH.1
  refine zn [0] ⟨?_⟩;refine yR [0,3] ⟨?_⟩;refine v_seq ?_;intros;refine yR [0,3,4] ⟨?_⟩;refine v_block ?_;intros;refine v_loop (fun i=>⟨[(0,.str s),(3,.int .i64 (valD s i)),(4,.int .i64 (Nat.cast i))],[],false,44,0⟩) (fun i=>i≤s.size∧∀k,k < i→digAt s k=true) (fun i=>s.size - i) 0 ?_ ?_ ?_
  ·refine weak_of [0,3,4] ?_
   simp only [keep_mk,keepE_nil,keepE_cons,look_cons,look_nil,Nat.reduceEqDiff,reduceIte]
   rfl
  ·exact ⟨Nat.zero_le _,fun k h=>absurd h (Nat.not_lt_zero _)⟩
  ·rintro i hok10 Q10 n10 e10 r10
   obtain ⟨hi1,hd⟩:=hok10
   refine v_seq ?_;intros;refine yR [0,3,4,22] ⟨?_⟩;refine v_condS _ rfl ?_ ?_
   ·intro hc1
    have hlt:i < s.size:=by omega
    have hbb:=byteAt_rng s i
    have hvb:=valD_bound i hd
    have hvp:(10:Int) ^ i≤100000:=pow_le6 (by omega)
    refine zn [0,3,4] ⟨?_⟩;refine v_seq ?_;intro Q14 n14 e14 r14;refine v_block ?_;intro Q15 n15 x15 e15 r15;refine v_seq ?_;intros;refine v_seqR [0,3,4,34] ?_;intro K17 k17;refine zq4 ⟨?_⟩;refine v_op ?_;intro K k
    simp only [zE,zL,zN,aStepM,optable,set_some,Nat.reduceEqDiff,reduceIte,Nat.reduceLT,implies_true,forall_const,reduceCtorEq,V.ofValue,V.ofScalar,V.un,V.gd,aExec,aop,aIndex,Int.toNat_natCast,Int.reduceToNat,Nat.reduceAdd,Nat.reduceLeDiff,Nat.reduceMul,Tryz.underlying9]
    repeat (refine ai (by first | omega | (intro h;simp only [Bool.and_eq_true,Bool.not_eq_true',decide_eq_false_iff_not,decide_eq_true_eq,Bool.not_eq_false',Bool.or_eq_false_iff] at h;omega) | (intros;simp_all;omega)) ?_)
    refine k _ ?_;clear k K;refine zBinOp ⟨?_⟩;refine zMove ⟨?_⟩;refine zgMove ⟨?_⟩;refine zgMove ⟨?_⟩
    first
    |(refine v_pass 32 4 false rfl (show 32 < 44 by decide) rfl ?_ ?_;(focus first | rfl | (simp only [zV,guardV,Nat.reduceEqDiff,reduceIte];done));simp only [zW,set_some,Nat.reduceEqDiff,reduceIte])
    |skip
     refine v_op ?_;intro K k
     simp only [zE,zL,zN,aStepM,optable,set_some,Nat.reduceEqDiff,reduceIte,Nat.reduceLT,implies_true,forall_const,reduceCtorEq,V.ofValue,V.ofScalar,V.un,V.gd,guardV,V.wrap,aExec,aop,aIndex,Int.toNat_natCast,Int.reduceToNat,Nat.reduceAdd,Nat.reduceLeDiff,Nat.reduceMul,Tryz.underlying9]
     repeat (refine ai (by first | omega | (intro h;simp only [Bool.and_eq_true,Bool.not_eq_true',decide_eq_false_iff_not,decide_eq_true_eq,Bool.not_eq_false',Bool.or_eq_false_iff] at h;omega) | (intros;simp_all;omega)) ?_)
     refine k _ ?_;clear k K
    refine zgBinOp ⟨?_⟩;refine zPick ⟨?_⟩;refine k17 _ ?_;refine zk ⟨?_⟩;refine v_condS _ rfl ?_ ?_
    ·intro hc2
     have hno:digAt s i=false:=by
      rw [digAt]
      by_cases e:byteAt s i < 48<;>simp [e] at hc2⊢<;>omega
     refine yR [2] ⟨?_⟩;refine zr ⟨?_⟩
     have e:rdN s=-1:=by rw [rdN,if_neg (fun h=>by have:=h.2 i hlt;rw [hno] at this;cases this)]
     rw [e]
     exact ret_pure rfl rfl (.inl rfl)
    ·intro hc2
     have hyes:digAt s i=true:=by
      rw [digAt]
      by_cases e:byteAt s i < 48<;>simp [e] at hc2⊢<;>omega
     have hdi:=dig_ok hyes
     have hw1:IntKind.u8.wrap (byteAt s i - 48)=byteAt s i - 48:=by rw [IntKind.wrap_u8];omega
     have hw2:IntKind.i64.wrap (byteAt s i - 48)=byteAt s i - 48:=by rw [IntKind.wrap_i64];omega
     refine zn [0,3,4] ⟨?_⟩;refine v_region ?_;intro K20 k20
     have F:=Fc.mk (ai hw1 hw2)
     refine zMove ⟨?_⟩;refine zBinOpW ⟨?_⟩;refine zq4 ⟨?_⟩;refine v_op ?_;intro K k
     simp only [zE,zL,zN,aStepM,optable,set_some,Nat.reduceEqDiff,reduceIte,Nat.reduceLT,implies_true,forall_const,reduceCtorEq,V.ofValue,V.ofScalar,V.un,V.gd,aExec,aop,aIndex,Int.toNat_natCast,Int.reduceToNat,Nat.reduceAdd,Nat.reduceLeDiff,Nat.reduceMul,Tryz.underlying9,hw1,hw2]
     repeat (refine ai (by first | omega | (intro h;simp only [Bool.and_eq_true,Bool.not_eq_true',decide_eq_false_iff_not,decide_eq_true_eq,Bool.not_eq_false',Bool.or_eq_false_iff] at h;omega) | (intros;simp_all;omega)) ?_)
     refine k _ ?_;clear k K;refine zBinOpW ⟨?_⟩;refine zConvert ⟨?_⟩;refine zBinOpW ⟨?_⟩;refine zAssign ⟨?_⟩;refine k20 _ ?_;refine n15 _ ?_;refine n14 _ _ (weak_keep [0,3,4] _) ?_;refine zk ⟨?_⟩;refine yV ⟨?_⟩;refine n10 _ (i+1) ?_ ?_ ?_
     ·refine weak_bothS [0,3,4] [] ⟨?_⟩
      rfl
     ·exact ⟨hlt,dig_snoc hd hyes⟩
     ·show _ < _;omega
   ·intro hc1
    refine zn [3] ⟨?_⟩;refine yR [2] ⟨?_⟩;refine zr ⟨?_⟩
    have hie:i=s.size:=by omega
    subst hie
    have e:rdN s=valD s s.size:=by rw [rdN,if_pos ⟨hH,hd⟩]
    rw [e]
    exact ret_pure rfl rfl (.inl rfl)
set_option maxRecDepth 8000 in
theorem slCut_con (s:ByteArray) (hs:s.size≤1048576):Con Tryz.prog 152 [.str s,.str ⟨#[32]⟩] [] (.tup [.str (cutA s),.str (cutB s),.bool (decide (0≤blk s))]) []:=by
 have hz1:(⟨#[32]⟩:ByteArray).size=1:=rfl
 refine v_con [.tmp 4,.tmp 5,.tmp 6] [] Tryz.func152 rfl rfl rfl (by simp [Tryz.ntmps152]) ?_
 intro Q0 n0 r0
 simp only [Tryz.ntmps152,envFrom,Nat.reduceAdd]
 have T:=Tys.mk (ai Ty.t3 Ty.t9)
 have F:=Fc.mk True.intro
 rcases blk_case s with ⟨h1,_⟩ | ⟨p,h1,h2,_,_⟩
 ·skip
  have hA:cutA s=s:=by rw [cutA,h1];rfl
  have hB:cutB s=⟨#[]⟩:=by rw [cutB,h1];rfl
  have F:=Fc.mk (ai hz1 h1)
  refine yR [0,1] ⟨?_⟩;refine v_seq ?_;intros;refine yRc [0,1,7] (slIdx32_con s) ⟨?_⟩;refine yR [0,1,7,12] ⟨?_⟩;refine v_cond _ rfl ?_ ?_
  ·intro hc0
   exfalso;simp at hc0
  ·intro hc0
   try simp only [zC,reduceCtorEq] at hc0
   refine zn [0] ⟨?_⟩;refine yR [4,5,6] ⟨?_⟩;refine zr ⟨?_⟩
   rw [hA,hB,h1]
   exact ret_pure rfl rfl (.inl rfl)
 ·skip
  have hA:cutA s=s.extract 0 p:=by rw [cutA,h1,if_pos (by omega),Int.toNat_natCast]
  have hB:cutB s=s.extract (p+1) s.size:=by rw [cutB,h1,if_pos (by omega),Int.toNat_natCast]
  have hp1:((p:Int)+1).toNat=p+1:=by omega
  have F:=Fc.mk (ai hz1 (ai h1 (ai @Int.toNat_natCast hp1)))
  refine yR [0,1] ⟨?_⟩;refine v_seq ?_;intros;refine yRc [0,1,7] (slIdx32_con s) ⟨?_⟩;refine yR [0,1,7,12] ⟨?_⟩;refine v_cond _ rfl ?_ ?_
  ·intro hc0
   try simp only [zC,reduceCtorEq] at hc0
   refine v_seq ?_;intro Q12 n12 e12 r12;refine v_draw (by kernel_rfl) ?_;intro K13 q13 k13
   show aAny _ _ _ _ 12 (Array.replicate 12 false) _
   refine zdMove q13 true 0 13 ?_;refine zdMove q13 true 1 14 ?_;refine zdSlice q13 true 2 15 ?_;refine zdMove q13 true 3 16 ?_;refine zdMove q13 true 4 17 ?_;refine zdMove q13 true 5 18 ?_;refine zdLen q13 true 6 19 ?_;refine zdBinOpW q13 true 7 20 ?_;refine zdSlice q13 true 8 21 ?_;refine zoAssign 9 ⟨?_⟩;refine zoAssign 10 ⟨?_⟩;refine zoAssign 11 ⟨?_⟩;refine aAny_done (by kernel_rfl) ?_;refine k13 _ ?_;refine n12 _ _ (weak_keep [4,5,6] _) ?_;refine zk ⟨?_⟩;refine zr ⟨?_⟩
   rw [hA,hB,h1,decide_eq_true (show (0:Int)≤(p:Int) by omega)]
   exact ret_pure rfl rfl (.inl rfl)
  ·intro hc0
   exfalso;first | (simp at hc0;done) | (simp at hc0;omega)
theorem cut_con (s:ByteArray) (hs:s.size≤1048576):Con Tryz.prog 77 [.str s,.str ⟨#[32]⟩] [] (.tup [.str (cutA s),.str (cutB s),.bool (decide (0≤blk s))]) []:=by
 refine v_con [.tmp 4,.tmp 5,.tmp 6] [] Tryz.func77 rfl rfl rfl (by simp [Tryz.ntmps77]) ?_
 intro Q0 n0 r0
 simp only [Tryz.ntmps77,envFrom,Nat.reduceAdd]
 have T:=Tys.mk Ty.t9
 have F:=Fc.mk True.intro
 refine yR [0,1] ⟨?_⟩;refine yRc [4,5,6] (slCut_con s hs) ⟨?_⟩;refine zr ⟨?_⟩
 exact ret_pure rfl rfl (.inl rfl)
set_option maxRecDepth 100000 in
theorem roLine_con (n:Int) (ss:List TS) (fl:List TA) (ins:List TI) (ws:List TW) (s:ByteArray) (hl:fl.length≤1048576) (hil:ins.length≤1048576) (hin:∀x∈ins,x.2.2.2.length≤1048576) (hwl:ws.length≤1048576) (hwn:∀x∈ws,x.2.length≤1048576) (hls:∀t∈fl,t.1.size≤9223372036854775807) (hz:s.size≤1048576) (hB:(ctlB n ss fl ins ws)=true):Con Tryz.prog 75 [.agg [.sl (fl.map (fun t:TA=>V.agg [V.str t.1,V.int .i64 t.2.1,V.int .i64 t.2.2.1,V.int .i64 t.2.2.2.1,V.int .i64 t.2.2.2.2])),.sl (ins.map (fun t:TI=>V.agg [V.int .i64 t.1,V.int .i64 t.2.1,V.bool t.2.2.1,V.sl (t.2.2.2.map V.str)])),.sl (ws.map (fun t:TW=>V.agg [V.int .i64 t.1,V.sl (t.2.map (V.int .i64))]))],.str s] [] (.tup [.agg [.ref 0,.ref 1,.ref 2],.bool (lineB fl s)]) [.arr ((orNil (lineB fl s) (lineF fl ins s)).map (fun t:TA=>V.agg [V.str t.1,V.int .i64 t.2.1,V.int .i64 t.2.2.1,V.int .i64 t.2.2.2.1,V.int .i64 t.2.2.2.2])) .flat,.arr ((orNil (lineB fl s) (lineI ins s)).map (fun t:TI=>V.agg [V.int .i64 t.1,V.int .i64 t.2.1,V.bool t.2.2.1,V.sl (t.2.2.2.map V.str)])) (fillK (orNil (lineB fl s) (lineI ins s)).length),.arr ((orNil (lineB fl s) ws).map (fun t:TW=>V.agg [V.int .i64 t.1,V.sl (t.2.map (V.int .i64))])) (fillK (orNil (lineB fl s) ws).length)]:=by
 refine v_con [.cell 4 42,.tmp 5] [] Tryz.func75 rfl rfl rfl (by simp [Tryz.ntmps75]) ?_
 intro Q0 n0 r0
 simp only [Tryz.ntmps75,envFrom,Nat.reduceAdd]
 have T:=Tys.mk (ai Ty.t3 (ai Ty.t4 (ai Ty.t5 (ai Ty.t9 (ai Ty.t38 (ai Ty.t39 (ai Ty.t40 (ai Ty.t42 (ai Ty.t47 (ai Ty.t49 (ai Ty.t76 (ai Ty.t78 Ty.t95))))))))))))
 have F:=Fc.mk True.intro
 rcases words_case s with ⟨hw,_⟩ | ⟨hw,_⟩ | ⟨hw,_⟩
 ·skip
  have hsp:Con _ _ _ _ _ [.arr ((words s).map V.str) .flat]:=l1Split_con s 32 (by omega)
  have hL:(lineB fl s)=false:=by rw [lineB,hw];rfl
  have F:=Fc.mk hw
  refine yR [1,2,4] ⟨?_⟩;refine yRc [2,4,6] (hsp) ⟨?_⟩;refine v_seq ?_;intros;refine yR [2,4,6,12] ⟨?_⟩;refine v_cond _ rfl ?_ ?_
  ·intro hc0
   try simp only [zC,reduceCtorEq] at hc0
   refine yR [4,5] ⟨?_⟩;refine zq1 ⟨?_⟩
   simp only [hL,orNil_f,List.map_nil,List.length_nil,fillK_0]
   exact rta
  ·intro hc0
   exfalso;simp at hc0
 ·skip
  have hsp:Con _ _ _ _ _ [.arr ((words s).map V.str) .flat]:=l1Split_con s 32 (by omega)
  rw [hw] at hsp
  simp only [List.map_cons,List.map_nil] at hsp
  have hcz:=(cut_sz s hz).2
  have F:=Fc.mk True.intro
  refine yR [1,2,4] ⟨?_⟩;refine yRc [2,4,6] (hsp) ⟨?_⟩;refine v_seq ?_;intros;refine yR [2,4,6,12] ⟨?_⟩;refine v_cond _ rfl ?_ ?_
  ·intro hc0
   exfalso;simp at hc0
  ·intro hc0
   try simp only [zC,reduceCtorEq] at hc0
   refine zn [2,4,6] ⟨?_⟩;refine v_seq ?_;intros;refine yR [2,4,6,17] ⟨?_⟩;refine v_condS _ rfl ?_ ?_
   ·intro hc1
    have hat:cutB s=(⟨#[97,116]⟩:ByteArray):=by simpa using hc1
    have hL:(lineB fl s)=arrB fl (cutA s):=lineB_at hat
    have hF:(lineF fl ins s)=arrF fl ins (cutA s):=if_pos hat
    have hI:(lineI ins s)=ins:=if_pos hat
    refine v_seq ?_;intro Q15 n15 e15 r15;refine v_draw (by kernel_rfl) ?_;intro K16 q16 k16
    show aAny _ _ _ _ 9 (Array.replicate 9 false) _
    refine zdLoadX q16 true 0 18 ?_;refine zdMove q16 true 1 19 ?_;refine zdIndexAddr q16 true 2 20 ?_;refine zdLoadX q16 true 3 21 ?_;refine zoc 4 (roArrive_con n ss fl ins ws (cutA s) hl hil hin hwl hwn hB) ⟨?_⟩;refine zdExtract q16 true 5 23 ?_;refine zdExtract q16 true 6 24 ?_;refine zoStore 7 ⟨?_⟩;refine zoAssign 8 ⟨?_⟩;refine aAny_done (by kernel_rfl) ?_;refine k16 _ ?_;refine n15 _ _ (weak_keep [4,5] _) ?_;refine zq5 ⟨?_⟩
    rw [hL,hF,hI]
    exact rta
   ·intro hc1
    have hat:cutB s≠(⟨#[97,116]⟩:ByteArray):=by simpa using hc1
    have hL0:(lineB fl s)=(inR (rdN (cutB s)) 0 5 && repB fl (cutA s) (rdN (cutB s))):=by rw [lineB,hw,if_neg hat];rfl
    have hF:(lineF fl ins s)=chgF fl (cutA s) (rdN (cutB s)):=if_neg hat
    have hI:(lineI ins s)=repI ins (cutA s) (rdN (cutB s)):=if_neg hat
    refine zn [2,4,6] ⟨?_⟩;refine yRc [2,4,6,7] (l1Read_con (cutB s) hcz) ⟨?_⟩;refine v_seq ?_;intros;refine yRc [2,4,6,7,31] (apState_con (rdN (cutB s))) ⟨?_⟩;refine v_condS _ rfl ?_ ?_
    ·intro hc2
     have hL:(lineB fl s)=false:=by
      have q:inR (rdN (cutB s)) 0 5=false:=by first | (rw [inR];simpa using hc2) | (simp [inR] at hc2⊢;omega)
      rw [hL0,q];rfl
     refine yR [4,5] ⟨?_⟩;refine zq1 ⟨?_⟩
     simp only [hL,orNil_f,List.map_nil,List.length_nil,fillK_0]
     exact rta
    ·intro hc2
     have hL:(lineB fl s)=repB fl (cutA s) (rdN (cutB s)):=by
      have q:inR (rdN (cutB s)) 0 5=true:=by first | (rw [inR];simpa using hc2) | (simp [inR] at hc2⊢;omega)
      rw [hL0,q];rfl
     refine zn [2,4,6,7] ⟨?_⟩;refine v_seq ?_;intro Q22 n22 e22 r22;refine v_draw (by kernel_rfl) ?_;intro K23 q23 k23
     show aAny _ _ _ _ 10 (Array.replicate 10 false) _
     refine zdLoadX q23 true 0 33 ?_;refine zdMove q23 true 1 34 ?_;refine zdIndexAddr q23 true 2 35 ?_;refine zdLoadX q23 true 3 36 ?_;refine zdMove q23 true 4 37 ?_;refine zoc 5 (roReport_con n ss fl ins ws (cutA s) (rdN (cutB s)) hl hil hin hwl hwn hls hB) ⟨?_⟩;refine zdExtract q23 true 6 39 ?_;refine zdExtract q23 true 7 40 ?_;refine zoStore 8 ⟨?_⟩;refine zoAssign 9 ⟨?_⟩;refine aAny_done (by kernel_rfl) ?_;refine k23 _ ?_;refine n22 _ _ (weak_keep [4,5] _) ?_;refine zq5 ⟨?_⟩
     rw [hL,hF,hI]
     exact rta
 ·skip
  have hsp:Con _ _ _ _ _ [.arr ((words s).map V.str) .flat]:=l1Split_con s 32 (by omega)
  have hL:(lineB fl s)=false:=by rw [lineB,decide_eq_false (by omega)];rfl
  have hwl:(words s).length≤1048577:=by
   have:=split_len s 32 s.size
   have:=cntB_le s 32 s.size
   rw [words,List.length_append,List.length_singleton];omega
  have F:=Fc.mk True.intro
  refine yR [1,2,4] ⟨?_⟩;refine yRc [2,4,6] (hsp) ⟨?_⟩;refine v_seq ?_;intros;refine yR [2,4,6,12] ⟨?_⟩;refine v_cond _ rfl ?_ ?_
  ·intro hc0
   try simp only [zC,reduceCtorEq] at hc0
   refine yR [4,5] ⟨?_⟩;refine zq1 ⟨?_⟩
   simp only [hL,orNil_f,List.map_nil,List.length_nil,fillK_0]
   exact rta
  ·intro hc0
   exfalso;first | omega | (simp at hc0;omega)
end Go.Proofs.YtaefoaghpehbpaaGreatDoor
