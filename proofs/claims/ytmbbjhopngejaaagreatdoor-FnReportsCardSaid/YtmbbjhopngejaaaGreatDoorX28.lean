/- What functions compute. No condition. -/
import Derived.Test.YtmbbjhopngejaaaGreatDoorX27
import Derived.Test.YtmbbjhopngejaaaGreatDoorX21
set_option linter.unusedSimpArgs false
set_option linter.unusedVariables false
set_option linter.defProp false
namespace Go.Proofs.YtmbbjhopngejaaaGreatDoor
open Go Go.Vm
set_option maxHeartbeats 8000000
def b5r (fl:List TA) (s:ByteArray):Bool:=decide ((c3h s).length=2) && (if b52 s=(⟨#[97,116]⟩:ByteArray) then b9t fl (c07 s) else inR (rdN (b52 s)) 0 5 && c18 fl (c07 s) (rdN (b52 s)))
def c9h (fl:List TA) (ins:List TI) (s:ByteArray):List TA:=if b52 s=(⟨#[97,116]⟩:ByteArray) then d5e fl ins (c07 s) else d7k fl (c07 s) (rdN (b52 s))
def c6h (ins:List TI) (s:ByteArray):List TI:=if b52 s=(⟨#[97,116]⟩:ByteArray) then ins else c9m ins (c07 s) (rdN (b52 s))
theorem f1a {x:Int}:inR x 0 5=true↔0≤x∧x≤5:=by simp [inR]
theorem f7q {s:ByteArray} (h:b52 s=(⟨#[97,116]⟩:ByteArray)):c3h s=[c07 s,b52 s]:=by
  rcases c43 s with ⟨_,h2⟩ | ⟨h1,_⟩ | ⟨_,k,h2,h3⟩
  · rw [h] at h2;exact absurd h2.symm d7r.2
  · exact h1
  · exact absurd h (d7u h2 h3).2
theorem d72 {fl:List TA} {s:ByteArray} (h:b52 s=(⟨#[97,116]⟩:ByteArray)):b5r fl s=b9t fl (c07 s):=by rw [b5r,f7q h,if_pos h];rfl
theorem f8i {fl:List TA} {s:ByteArray} {t:Int} (h:¬(0≤t∧t≤5)):c18 fl s t=false:=by
  have:(decide (0≤t) && decide (t≤5))=false:=by
    rw [Bool.eq_false_iff];intro e;simp only [Bool.and_eq_true,decide_eq_true_eq] at e;exact h e
  rw [c18,c4i,this];simp
theorem f37 {fl:List TA} {s:ByteArray} (h:b52 s≠(⟨#[97,116]⟩:ByteArray)) (hb:rdB (b52 s)=true):b5r fl s=c18 fl (c07 s) (rdV (b52 s))∧(b5r fl s=true→rdN (b52 s)=rdV (b52 s)):=by
  have hw:c3h s=[c07 s,b52 s]:=by
    rcases c43 s with ⟨_,h2⟩ | ⟨h1,_⟩ | ⟨_,k,h2,h3⟩
    · rw [h2,d7r.1] at hb;cases hb
    · exact h1
    · rw [(d7u h2 h3).1] at hb;cases hb
  rw [b5r,hw,if_neg h]
  by_cases hv:0≤rdN (b52 s)∧rdN (b52 s)≤5
  · rw [(f6d hv).2,f1a.2 hv]
    exact ⟨rfl,fun _=>rfl⟩
  · have:inR (rdN (b52 s)) 0 5=false:=by rw [Bool.eq_false_iff];exact fun e=>hv (f1a.1 e)
    rw [this,f8i (f9l hv hb)];exact ⟨rfl,fun e=>nomatch e⟩
theorem f7o {fl:List TA} {s:ByteArray} (h:b52 s≠(⟨#[97,116]⟩:ByteArray)) (hb:rdB (b52 s)=false):b5r fl s=false:=by
  rw [b5r,if_neg h];have:inR (rdN (b52 s)) 0 5=false:=by
    rw [Bool.eq_false_iff];intro e;rw [(f6d (f1a.1 e)).1] at hb;cases hb
  rw [this];simp
abbrev f88:=List TA×List TI×List Int
def b5o (st:f88) (i:Nat) (s:ByteArray):f88:=if b5r st.1 s=true then (c9h st.1 st.2.1 s,c6h st.2.1 s,st.2.2) else (st.1,st.2.1,st.2.2++[(i:Int)])
def b3t (fl:List TA) (ins:List TI) (L:List ByteArray):Nat→f88
  | 0=>(fl,ins,[])
  | i+1=>match L[i]? with | some s=>b5o (b3t fl ins L i) i s | none=>b3t fl ins L i
theorem c6u {fl:List TA} {ins:List TI} {L:List ByteArray} {i:Nat} {s:ByteArray} (h:L[i]? =some s):b3t fl ins L (i+1)=b5o (b3t fl ins L i) i s:=by rw [b3t,h]
theorem d45 {n:Int} {ss:List TS} {fl:List TA} {ins:List TI} {ws:List TW} {s:ByteArray} (hB:b2o n ss fl ins ws=true) (h:b5r fl s=true):b2o n ss (c9h fl ins s) (c6h ins s) ws=true:=by
  rw [b5r,qld] at h;have h2:=h.2
  by_cases e:b52 s=(⟨#[97,116]⟩:ByteArray)
  · rw [if_pos e] at h2
    rw [c9h,c6h,if_pos e,if_pos e];exact d1s hB h2
  · rw [if_neg e,qld] at h2
    rw [c9h,c6h,if_neg e,if_neg e];exact c6r hB h2.2
structure RunInv (n:Int) (ss:List TS) (ws:List TW) (i:Nat) (st:f88):Prop where
  ok:b2o n ss st.1 st.2.1 ws=true
  len:st.2.2.length≤i
theorem d1n {n:Int} {ss:List TS} {fl:List TA} {ins:List TI} {ws:List TW} {L:List ByteArray} (hB:b2o n ss fl ins ws=true):∀i,RunInv n ss ws i (b3t fl ins L i)
  | 0=>⟨hB,qlw _⟩
  | i + 1=>by
    have h:=d1n (L:=L) hB i;rw [b3t];split
    · rename_i s hs
      rw [b5o];split
      · rename_i q
        exact ⟨d45 h.ok q,Nat.le_succ_of_le h.len⟩
      · refine ⟨h.ok,?_⟩
        simp only [aQ,fQ,List.length_append,List.length_singleton];have:=h.len;omega
    · exact ⟨h.ok,Nat.le_succ_of_le h.len⟩
def c9c (n:Int) (ss:List TS) (fl:List TA) (ins:List TI) (ws:List TW) (L:List ByteArray):Bool:=b2o n ss fl ins ws && decide ((L.length:Int)≤40)
theorem d0g {n:Int} {ss:List TS} {fl:List TA} {ins:List TI} {ws:List TW} (hB:b2o n ss fl ins ws=true):fl.length≤1048576∧(∀t∈fl,t.1.size≤9223372036854775807)∧ins.length≤1048576∧(∀x∈ins,x.2.2.2.length≤1048576):=by
  have h:=(b5q ..).1 hB;have h1:=h.fl12;have h2:=h.inc.len;refine ⟨by omega,fun t ht=> ?_,by omega,fun x hx=> ?_⟩
  · have:=h.ap t ht
    simp only [c0r,Bool.and_eq_true] at this;have h3:=this.1.1.1.1;simp only [b4t,Bool.and_eq_true,decide_eq_true_eq] at h3;omega
  · have:=(h.inc.each x hx).len;omega
set_option maxRecDepth 8000 in
theorem d8p (s:ByteArray) (hs:s.size≤1048576):Con Tryz.prog 111 [.str s] [] (.int .i64 (rdN s)) []:=by
 refine zcn [.tmp 2] [] Tryz.func111 Tryz.ntmps111 ⟨?_⟩;intro Q0 n0 r0;have T:=tq4 Ty.t3 Ty.t4 Ty.t5 Ty.t9;have F:=Fc.mk True.intro;refine yR [0] ⟨?_⟩;refine b0e ?_;intros;refine b1l [0,18] ?_;intro K3 k3;refine f6v ⟨?_⟩;refine zc (b2w _ _ _) ⟨?_⟩;refine f98 ⟨?_⟩;first
 |(refine f2u 11 4 false rfl (show 11 < 44 by decide) rfl ?_ ?_;(focus first | rfl | (simp only [zV,b04,Nat.reduceEqDiff,reduceIte];done));simp only [zW,b0k,Nat.reduceEqDiff,reduceIte])
 |skip
  refine b6g ?_;intro K k;simp only [zE,zL,zN,b0w,b0s,b0k,Nat.reduceEqDiff,reduceIte,Nat.reduceLT,implies_true,forall_const,reduceCtorEq,V.ofValue,V.ofScalar,V.un,V.gd,b04,V.wrap,b07,aop,b9k,Int.toNat_natCast,Int.reduceToNat,Nat.reduceAdd,Nat.reduceLeDiff,Nat.reduceMul,Tryz.underlying9];repeat (refine ai (by first | omega | (intro h;simp only [Bool.and_eq_true,Bool.not_eq_true',decide_eq_false_iff_not,decide_eq_true_eq,Bool.not_eq_false',Bool.or_eq_false_iff] at h;omega) | (intros;simp_all;omega)) ?_)
  refine k _ ?_;clear k K
 refine c2q ⟨?_⟩;refine b82 ⟨?_⟩;refine b82 ⟨?_⟩;refine f5h ⟨?_⟩;refine c2q ⟨?_⟩;refine f13 ⟨?_⟩;refine c5l ⟨?_⟩;refine k3 _ ?_;refine zk ⟨?_⟩;refine b0a _ rfl ?_ ?_
 ·intro hc0;have hH:rdH s=false:=by
   rw [Bool.eq_false_iff];intro q;simp only [rdH,Bool.and_eq_true,decide_eq_true_eq,Bool.not_eq_true',Bool.and_eq_false_imp,decide_eq_false_iff_not] at q
   by_cases e:b2e s 0=48<;>simp [e] at hc0 q<;>omega
  refine yR [2] ⟨?_⟩;refine zr ⟨?_⟩;have e:rdN s=-1:=by rw [rdN,if_neg (fun h=>by have:=h.1;rw [hH] at this;cases this)]
  rw [e];exact b0g rfl rfl (.inl rfl)
 ·intro hc0;have hH:rdH s=true:=by
   simp only [rdH,Bool.and_eq_true,decide_eq_true_eq,Bool.not_eq_true',Bool.and_eq_false_imp,decide_eq_false_iff_not]
   by_cases e:b2e s 0=48<;>simp [e] at hc0⊢<;>omega
  have hz:1≤s.size∧s.size≤6:=by
   simp only [rdH,Bool.and_eq_true,decide_eq_true_eq] at hH;exact hH.1
  refine zn [0] ⟨?_⟩;refine yR [0,3] ⟨?_⟩;refine b0e ?_;intros;refine yR [0,3,4] ⟨?_⟩;refine b0i ?_;intros;refine b08 (fun i=>⟨[(0,.str s),(3,.int .i64 (d9v s i)),(4,.int .i64 (Nat.cast i))],[],false,44,0⟩) (fun i=>i≤s.size∧∀k,k < i→c2a s k=true) (fun i=>s.size - i) 0 ?_ ?_ ?_
  ·refine b2a [0,3,4] ?_;simp only [b02,b0n,b0l,b0j,b0u,Nat.reduceEqDiff,reduceIte];rfl
  ·exact ⟨qle _,fun k h=>absurd h (Nat.not_lt_zero _)⟩
  ·rintro i hok10 Q10 n10 e10 r10;obtain ⟨hi1,hd⟩:=hok10;refine b0e ?_;intros;refine yR [0,3,4,22] ⟨?_⟩;refine b0a _ rfl ?_ ?_
   ·intro hc1;have hlt:i < s.size:=by omega
    have hbb:=d90 s i;have hvb:=c92 i hd;have hvp:(10:Int) ^ i≤100000:=f60 (by omega);refine zn [0,3,4] ⟨?_⟩;refine b0e ?_;intro Q14 n14 e14 r14;refine b0i ?_;intro Q15 n15 x15 e15 r15;refine b0e ?_;intros;refine b1l [0,3,4,34] ?_;intro K17 k17;refine zq5 ⟨?_⟩;refine b6g ?_;intro K k;simp only [zE,zL,zN,b0w,b0s,b0k,Nat.reduceEqDiff,reduceIte,Nat.reduceLT,implies_true,forall_const,reduceCtorEq,V.ofValue,V.ofScalar,V.un,V.gd,b07,aop,b9k,Int.toNat_natCast,Int.reduceToNat,Nat.reduceAdd,Nat.reduceLeDiff,Nat.reduceMul,Tryz.underlying9];repeat (refine ai (by first | omega | (intro h;simp only [Bool.and_eq_true,Bool.not_eq_true',decide_eq_false_iff_not,decide_eq_true_eq,Bool.not_eq_false',Bool.or_eq_false_iff] at h;omega) | (intros;simp_all;omega)) ?_)
    refine k _ ?_;clear k K;refine c0m ⟨?_⟩;refine f8g ⟨?_⟩;refine b82 ⟨?_⟩;first
    |(refine f2u 32 4 false rfl (show 32 < 44 by decide) rfl ?_ ?_;(focus first | rfl | (simp only [zV,b04,Nat.reduceEqDiff,reduceIte];done));simp only [zW,b0k,Nat.reduceEqDiff,reduceIte])
    |skip
     refine b6g ?_;intro K k;simp only [zE,zL,zN,b0w,b0s,b0k,Nat.reduceEqDiff,reduceIte,Nat.reduceLT,implies_true,forall_const,reduceCtorEq,V.ofValue,V.ofScalar,V.un,V.gd,b04,V.wrap,b07,aop,b9k,Int.toNat_natCast,Int.reduceToNat,Nat.reduceAdd,Nat.reduceLeDiff,Nat.reduceMul,Tryz.underlying9];repeat (refine ai (by first | omega | (intro h;simp only [Bool.and_eq_true,Bool.not_eq_true',decide_eq_false_iff_not,decide_eq_true_eq,Bool.not_eq_false',Bool.or_eq_false_iff] at h;omega) | (intros;simp_all;omega)) ?_)
     refine k _ ?_;clear k K
    refine c2q ⟨?_⟩;refine c5l ⟨?_⟩;refine k17 _ ?_;refine zk ⟨?_⟩;refine b0a _ rfl ?_ ?_
    ·intro hc2;have hno:c2a s i=false:=by
      rw [c2a]
      by_cases e:b2e s i < 48<;>simp [e] at hc2⊢<;>omega
     refine yR [2] ⟨?_⟩;refine zr ⟨?_⟩;have e:rdN s=-1:=by rw [rdN,if_neg (fun h=>by have:=h.2 i hlt;rw [hno] at this;cases this)]
     rw [e];exact b0g rfl rfl (.inl rfl)
    ·intro hc2;have hyes:c2a s i=true:=by
      rw [c2a]
      by_cases e:b2e s i < 48<;>simp [e] at hc2⊢<;>omega
     have hdi:=d8e hyes;have hw1:IntKind.u8.wrap (b2e s i - 48)=b2e s i - 48:=by rw [IntKind.wrap_u8];omega
     have hw2:IntKind.i64.wrap (b2e s i - 48)=b2e s i - 48:=by rw [IntKind.wrap_i64];omega
     refine zn [0,3,4] ⟨?_⟩;refine b2m ?_;intro K20 k20;have F:=fq2 hw1 hw2;refine b15 ⟨?_⟩;refine b6z ⟨?_⟩;refine zq5 ⟨?_⟩;refine b6g ?_;intro K k;simp only [zE,zL,zN,b0w,b0s,b0k,Nat.reduceEqDiff,reduceIte,Nat.reduceLT,implies_true,forall_const,reduceCtorEq,V.ofValue,V.ofScalar,V.un,V.gd,b07,aop,b9k,Int.toNat_natCast,Int.reduceToNat,Nat.reduceAdd,Nat.reduceLeDiff,Nat.reduceMul,Tryz.underlying9,hw1,hw2];repeat (refine ai (by first | omega | (intro h;simp only [Bool.and_eq_true,Bool.not_eq_true',decide_eq_false_iff_not,decide_eq_true_eq,Bool.not_eq_false',Bool.or_eq_false_iff] at h;omega) | (intros;simp_all;omega)) ?_)
     refine k _ ?_;clear k K;refine b6z ⟨?_⟩;refine d7m ⟨?_⟩;refine b6z ⟨?_⟩;refine b2l ⟨?_⟩;refine k20 _ ?_;refine n15 _ ?_;refine n14 _ _ (b0f [0,3,4] _) ?_;refine zk ⟨?_⟩;refine yV ⟨?_⟩;refine n10 _ (i+1) ?_ ?_ ?_
     ·refine b0d [0,3,4] [] ⟨?_⟩;rfl
     ·exact ⟨hlt,f4x hd hyes⟩
     ·show _ < _;omega
   ·intro hc1;refine zn [3] ⟨?_⟩;refine yR [2] ⟨?_⟩;refine zr ⟨?_⟩;have hie:i=s.size:=by omega
    subst hie;have e:rdN s=d9v s s.size:=by rw [rdN,if_pos ⟨hH,hd⟩]
    rw [e];exact b0g rfl rfl (.inl rfl)
set_option maxRecDepth 8000 in
theorem f0x (s:ByteArray) (hs:s.size≤1048576):Con Tryz.prog 102 [.str s,.str ⟨#[32]⟩] [] (.tup [.str (c07 s),.str (b52 s),.bool (decide (0≤blk s))]) []:=by
 have hz1:(⟨#[32]⟩:ByteArray).size=1:=rfl;refine zcn [.tmp 4,.tmp 5,.tmp 6] [] Tryz.func102 Tryz.ntmps102 ⟨?_⟩;intro Q0 n0 r0;have T:=tq2 Ty.t3 Ty.t9;have F:=Fc.mk True.intro;rcases d79 s with ⟨h1,_⟩ | ⟨p,h1,h2,_,_⟩
 ·skip;have hA:c07 s=s:=by rw [c07,h1];rfl
  have hB:b52 s=⟨#[]⟩:=by rw [b52,h1];rfl
  have F:=fq2 hz1 h1;refine yR [0,1] ⟨?_⟩;refine b0e ?_;intros;refine yRc [0,1,7] (c8k s) ⟨?_⟩;refine yR [0,1,7,12] ⟨?_⟩;refine b18 _ rfl ?_ ?_
  ·intro hc0;exfalso;simp at hc0
  ·intro hc0;try simp only [zC,reduceCtorEq] at hc0
   refine zn [0] ⟨?_⟩;refine yR [4,5,6] ⟨?_⟩;refine zr ⟨?_⟩;rw [hA,hB,h1];exact b0g rfl rfl (.inl rfl)
 ·skip;have hA:c07 s=s.extract 0 p:=by rw [c07,h1,if_pos (by omega),qli]
  have hB:b52 s=s.extract (p+1) s.size:=by rw [b52,h1,if_pos (by omega),qli]
  have hp1:((p:Int)+1).toNat=p+1:=by omega
  have F:=fq4 hz1 h1 @qli hp1;refine yR [0,1] ⟨?_⟩;refine b0e ?_;intros;refine yRc [0,1,7] (c8k s) ⟨?_⟩;refine yR [0,1,7,12] ⟨?_⟩;refine b18 _ rfl ?_ ?_
  ·intro hc0;try simp only [zC,reduceCtorEq] at hc0
   refine b0e ?_;intro Q12 n12 e12 r12;refine b1f (by kernel_rfl) ?_;intro K13 q13 k13;show b1r _ _ _ _ 12 (Array.replicate 12 false) _;refine b0t q13 true 0 13 ?_;refine b0t q13 true 1 14 ?_;refine b5t q13 true 2 15 ?_;refine b0t q13 true 3 16 ?_;refine b0t q13 true 4 17 ?_;refine b0t q13 true 5 18 ?_;refine f0d q13 true 6 19 ?_;refine b21 q13 true 7 20 ?_;refine b5t q13 true 8 21 ?_;refine b0p 9 ⟨?_⟩;refine b0p 10 ⟨?_⟩;refine b0p 11 ⟨?_⟩;refine b0b (by kernel_rfl) ?_;refine k13 _ ?_;refine n12 _ _ (b0f [4,5,6] _) ?_;refine zq2 ⟨?_⟩;rw [hA,hB,h1,decide_eq_true (show (0:Int)≤(p:Int) by omega)];exact b0g rfl rfl (.inl rfl)
  ·intro hc0;exfalso;first | (simp at hc0;done) | (simp at hc0;omega)
theorem f7h (s:ByteArray) (hs:s.size≤1048576):Con Tryz.prog 40 [.str s,.str ⟨#[32]⟩] [] (.tup [.str (c07 s),.str (b52 s),.bool (decide (0≤blk s))]) []:=by
 refine zcn [.tmp 4,.tmp 5,.tmp 6] [] Tryz.func40 Tryz.ntmps40 ⟨?_⟩;intro Q0 n0 r0;have T:=Tys.mk Ty.t9;have F:=Fc.mk True.intro;refine yR [0,1] ⟨?_⟩;refine yRc [4,5,6] (f0x s hs) ⟨?_⟩;refine zr ⟨?_⟩;exact b0g rfl rfl (.inl rfl)
set_option maxRecDepth 100000 in
theorem d05 (n:Int) (ss:List TS) (fl:List TA) (ins:List TI) (ws:List TW) (s:ByteArray) (hl:fl.length≤1048576) (hil:ins.length≤1048576) (hin:∀x∈ins,x.2.2.2.length≤1048576) (hwl:ws.length≤1048576) (hwn:∀x∈ws,x.2.length≤1048576) (hls:∀t∈fl,t.1.size≤9223372036854775807) (hz:s.size≤1048576) (hB:(b2o n ss fl ins ws)=true):Con Tryz.prog 46 [kQ fl ins ws,.str s] [] (.tup [.agg [.ref 0,.ref 1,.ref 2],.bool (b5r fl s)]) [aQ rQa (b3j (b5r fl s) (c9h fl ins s)),fQ rQb (b3j (b5r fl s) (c6h ins s)),fQ rQc (b3j (b5r fl s) ws)]:=by
 refine zcn [.cell 4 31,.tmp 5] [] Tryz.func46 Tryz.ntmps46 ⟨?_⟩;intro Q0 n0 r0;have T:=Tys.mk (ai Ty.t3 (ai Ty.t4 (ai Ty.t5 (ai Ty.t9 (ai Ty.t27 (ai Ty.t28 (ai Ty.t29 (ai Ty.t31 (ai Ty.t32 (ai Ty.t35 (ai Ty.t53 (ai Ty.t55 Ty.t91))))))))))));have F:=Fc.mk True.intro;rcases c43 s with ⟨hw,_⟩ | ⟨hw,_⟩ | ⟨hw,_⟩
 ·skip;have hsp:Con _ _ _ _ _ [.arr ((c3h s).map V.str) .flat]:=c2m s 32 (by omega);have hL:(b5r fl s)=false:=by rw [b5r,hw];rfl
  have F:=Fc.mk hw;refine yR [1,2,4] ⟨?_⟩;refine yRc [2,4,6] (hsp) ⟨?_⟩;refine b0e ?_;intros;refine yR [2,4,6,12] ⟨?_⟩;refine b18 _ rfl ?_ ?_
  ·intro hc0;try simp only [zC,reduceCtorEq] at hc0
   refine yR [4,5] ⟨?_⟩;refine zq1 ⟨?_⟩;simp only [aQ,fQ,hL,b2s,List.map_nil,List.length_nil,b41];exact rta
  ·intro hc0;exfalso;simp at hc0
 ·skip;have hsp:Con _ _ _ _ _ [.arr ((c3h s).map V.str) .flat]:=c2m s 32 (by omega);rw [hw] at hsp;simp only [aQ,fQ,List.map_cons,List.map_nil] at hsp;have hcz:=(f6b s hz).2;have F:=Fc.mk True.intro;refine yR [1,2,4] ⟨?_⟩;refine yRc [2,4,6] (hsp) ⟨?_⟩;refine b0e ?_;intros;refine yR [2,4,6,12] ⟨?_⟩;refine b18 _ rfl ?_ ?_
  ·intro hc0;exfalso;simp at hc0
  ·intro hc0;try simp only [zC,reduceCtorEq] at hc0
   refine zn [2,4,6] ⟨?_⟩;refine b0e ?_;intros;refine yR [2,4,6,17] ⟨?_⟩;refine b0a _ rfl ?_ ?_
   ·intro hc1;have hat:b52 s=(⟨#[97,116]⟩:ByteArray):=by simpa using hc1
    have hL:(b5r fl s)=b9t fl (c07 s):=d72 hat;have hF:(c9h fl ins s)=d5e fl ins (c07 s):=if_pos hat;have hI:(c6h ins s)=ins:=if_pos hat;refine b0e ?_;intro Q15 n15 e15 r15;refine b1f (by kernel_rfl) ?_;intro K16 q16 k16;show b1r _ _ _ _ 9 (Array.replicate 9 false) _;refine b1i q16 true 0 18 ?_;refine b0t q16 true 1 19 ?_;refine b1z q16 true 2 20 ?_;refine b1i q16 true 3 21 ?_;refine zoc 4 (c5n n ss fl ins ws (c07 s) hl hil hin hwl hwn hB) ⟨?_⟩;refine b2j q16 true 5 23 ?_;refine b2j q16 true 6 24 ?_;refine b06 7 ⟨?_⟩;refine b0p 8 ⟨?_⟩;refine b0b (by kernel_rfl) ?_;refine k16 _ ?_;refine n15 _ _ (b0f [4,5] _) ?_;refine zq6 ⟨?_⟩;rw [hL,hF,hI];exact rta
   ·intro hc1;have hat:b52 s≠(⟨#[97,116]⟩:ByteArray):=by simpa using hc1
    have hL0:(b5r fl s)=(inR (rdN (b52 s)) 0 5 && c18 fl (c07 s) (rdN (b52 s))):=by rw [b5r,hw,if_neg hat];rfl
    have hF:(c9h fl ins s)=d7k fl (c07 s) (rdN (b52 s)):=if_neg hat;have hI:(c6h ins s)=c9m ins (c07 s) (rdN (b52 s)):=if_neg hat;refine zn [2,4,6] ⟨?_⟩;refine yRc [2,4,6,7] (d8p (b52 s) hcz) ⟨?_⟩;refine b0e ?_;intros;refine yRc [2,4,6,7,31] (b8q (rdN (b52 s))) ⟨?_⟩;refine b0a _ rfl ?_ ?_
    ·intro hc2;have hL:(b5r fl s)=false:=by
      have q:inR (rdN (b52 s)) 0 5=false:=by first | (rw [inR];simpa using hc2) | (simp [inR] at hc2⊢;omega)
      rw [hL0,q];rfl
     refine yR [4,5] ⟨?_⟩;refine zq1 ⟨?_⟩;simp only [aQ,fQ,hL,b2s,List.map_nil,List.length_nil,b41];exact rta
    ·intro hc2;have hL:(b5r fl s)=c18 fl (c07 s) (rdN (b52 s)):=by
      have q:inR (rdN (b52 s)) 0 5=true:=by first | (rw [inR];simpa using hc2) | (simp [inR] at hc2⊢;omega)
      rw [hL0,q];rfl
     refine zn [2,4,6,7] ⟨?_⟩;refine b0e ?_;intro Q22 n22 e22 r22;refine b1f (by kernel_rfl) ?_;intro K23 q23 k23;show b1r _ _ _ _ 10 (Array.replicate 10 false) _;refine b1i q23 true 0 33 ?_;refine b0t q23 true 1 34 ?_;refine b1z q23 true 2 35 ?_;refine b1i q23 true 3 36 ?_;refine b0t q23 true 4 37 ?_;refine zoc 5 (c5y n ss fl ins ws (c07 s) (rdN (b52 s)) hl hil hin hwl hwn hls hB) ⟨?_⟩;refine b2j q23 true 6 39 ?_;refine b2j q23 true 7 40 ?_;refine b06 8 ⟨?_⟩;refine b0p 9 ⟨?_⟩;refine b0b (by kernel_rfl) ?_;refine k23 _ ?_;refine n22 _ _ (b0f [4,5] _) ?_;refine zq6 ⟨?_⟩;rw [hL,hF,hI];exact rta
 ·skip;have hsp:Con _ _ _ _ _ [.arr ((c3h s).map V.str) .flat]:=c2m s 32 (by omega);have hL:(b5r fl s)=false:=by rw [b5r,decide_eq_false (by omega)];rfl
  have hwl:(c3h s).length≤1048577:=by
   have:=c3r s 32 s.size;have:=d1h s 32 s.size;rw [c3h,qls,ql1];omega
  have F:=Fc.mk True.intro;refine yR [1,2,4] ⟨?_⟩;refine yRc [2,4,6] (hsp) ⟨?_⟩;refine b0e ?_;intros;refine yR [2,4,6,12] ⟨?_⟩;refine b18 _ rfl ?_ ?_
  ·intro hc0;try simp only [zC,reduceCtorEq] at hc0
   refine yR [4,5] ⟨?_⟩;refine zq1 ⟨?_⟩;simp only [aQ,fQ,hL,b2s,List.map_nil,List.length_nil,b41];exact rta
  ·intro hc0;exfalso;first | omega | (simp at hc0;omega)
set_option maxRecDepth 100000 in
theorem d6j (n:Int) (ss:List TS) (fl:List TA) (ins:List TI) (ws:List TW) (L:List ByteArray) (hLl:L.length≤1048576) (hLs:∀s∈L,s.size≤1048576) (hs:ss.length≤1048576) (hl:fl.length≤1048576) (hls:∀t∈fl,t.1.size≤9223372036854775807) (hil:ins.length≤1048576) (hin:∀x∈ins,x.2.2.2.length≤1048576) (his:∀x∈ins,∀s∈x.2.2.2,s.size≤9223372036854775807) (hwl:ws.length≤1048576) (hwn:∀x∈ws,x.2.length≤1048576):Con Tryz.prog 7 [tQ n ss,kQ fl ins ws,.sl (L.map V.str)] [] (.tup [.agg [.ref 0,.ref 1,.ref 2],.ref 3,.bool (c9c n ss fl ins ws L)]) [aQ rQa (b3j (c9c n ss fl ins ws L) (b3t fl ins L L.length).1),fQ rQb (b3j (c9c n ss fl ins ws L) (b3t fl ins L L.length).2.1),fQ rQc (b3j (c9c n ss fl ins ws L) ws),.arr ((b3j (c9c n ss fl ins ws L) (b3t fl ins L L.length).2.2).map (V.int .i64)) .flat]:=by
 refine zcn [.cell 6 31,.tmp 7,.tmp 8] [] Tryz.func7 Tryz.ntmps7 ⟨?_⟩;intro Q0 n0 r0;have T:=Tys.mk (ai Ty.t3 (ai Ty.t4 (ai Ty.t9 (ai Ty.t24 (ai Ty.t26 (ai Ty.t27 (ai Ty.t28 (ai Ty.t29 (ai Ty.t31 (ai Ty.t32 (ai Ty.t35 (ai Ty.t53 (ai Ty.t55 (ai Ty.t91 Ty.t127))))))))))))));have F:=Fc.mk True.intro;refine yR [2,3,4,6] ⟨?_⟩;refine b0e ?_;intros;refine yRc [2,4,6,23] (b4c n ss fl ins ws hs hl hls hil hin his hwl hwn) ⟨?_⟩;refine b0a _ rfl ?_ ?_
 ·intro hc0;have hR:(c9c n ss fl ins ws L)=false:=by
   rw [c9c];cases q:(b2o n ss fl ins ws) with
   |false=>rfl
   |true=>
    have ht:=b6f q;rw [Bool.true_and,decide_eq_false_iff_not];first | (simp [q,ht] at hc0;omega) | (simp [q] at hc0;omega)
  refine yR [6,7,8] ⟨?_⟩;refine zq1 ⟨?_⟩;simp only [aQ,fQ,hR,b2s,List.map_nil,List.length_nil,b41];exact rta
 ·intro hc0;have hB:(b2o n ss fl ins ws)=true:=by
   cases q:(b2o n ss fl ins ws) with
   |true=>rfl
   |false=>simp [q] at hc0
  have h40:(L.length:Int)≤40:=by
   have ht:=b6f hB;first | (simp [hB,ht] at hc0;omega) | omega
  have hR:(c9c n ss fl ins ws L)=true:=by rw [c9c,hB,decide_eq_true h40];rfl
  refine zn [2,4,6] ⟨?_⟩;refine yRc [2,6,9] (c1a fl ins ws hl hil hin hwl hwn) ⟨?_⟩;refine yR [2,6,9,10] ⟨?_⟩;refine b0e ?_;intros;refine yR [6,9,10,27,28,29] ⟨?_⟩;refine b0i ?_;intros;refine b08 (fun i=>⟨[(6,.ptr 3 0 0),(9,.ptr 7 0 0),(10,.ref 8),(27,.sl (L.map V.str)),(28,.int .i64 L.length),(29,.int .i64 (Nat.cast i))],[eQ,eQ,eQ,bQ 0 1 2,.arr ((b3t fl ins L i).1.map rQa) .flat,.arr ((b3t fl ins L i).2.1.map rQb) (b2h (b3t fl ins L i).2.1.length),fQ rQc ws,bQ 4 5 6,.arr ((b3t fl ins L i).2.2.map (V.int .i64)) .flat],false,50,0⟩) (fun i=>i≤L.length) (fun i=>L.length - i) 0 ?_ ?_ ?_
  ·refine b1o [6,9,10,27,28,29] [2,3,4,5,7,8,9,13,14] ⟨?_⟩;rfl
  ·exact qle _
  ·rintro i hok11 Q11 n11 e11 r11;have hi1:i≤L.length:=hok11;refine yR [6,9,10,27,28,29,30] ⟨?_⟩;refine b0e ?_;intros;refine b0a _ rfl ?_ ?_
   ·intro hc1;have hlt:i < L.length:=by omega
    obtain ⟨s,hx⟩:∃s,L[i]? =some s:=⟨_,qla hlt⟩;have hnx:=c6u (fl:=fl) (ins:=ins) hx;have hI:=d1n (L:=L) hB i;obtain ⟨st,hst⟩:∃st,st=b3t fl ins L i:=⟨_,rfl⟩;rw [←hst] at hnx hI;obtain ⟨z1,z2,z3,z4⟩:=d0g hI.ok;have hz:=hLs s (qlb hx);have hfl:=hI.len;rw [←hst];refine zn [6,9,10,27,28,29] ⟨?_⟩;refine b0e ?_;intros;refine b0i ?_;intros;have F:=Fc.mk (gdm hx);refine yR [6,9,10,11,12,27,28,29] ⟨?_⟩;refine yRc [6,9,10,11,13,14,27,28,29] (d05 n ss st.1 st.2.1 ws s z1 z3 z4 hwl hwn z2 hz hI.ok) ⟨?_⟩;refine b0e ?_;intros;refine yR [6,9,10,11,13,27,28,29,41] ⟨?_⟩;refine b0a _ rfl ?_ ?_
    ·intro hc2;have hL:b5r st.1 s=false:=by simpa using hc2
     have hn:b3t fl ins L (i+1)=(st.1,st.2.1,st.2.2++[(i:Int)]):=by rw [hnx,b5o,if_neg (by rw [hL];decide)]
     have hsn:st.2.2.map (V.int .i64)++[V.int .i64 (i:Int)]=(st.2.2++[(i:Int)]).map (V.int .i64):=by simp only [aQ,fQ,List.map_append];try rfl
     refine yR [6,9,10,27,28,29] ⟨?_⟩;refine zn [6,9,10,27,28,29] ⟨?_⟩;refine yV ⟨?_⟩;refine n11 _ (i+1) ?_ ?_ ?_
     ·refine b1o [6,9,10,27,28,29] [0,1,2,3,4,5,6,7,17] ⟨?_⟩;rw [hn,hsn];rfl
     ·exact hlt
     ·show _ < _;omega
    ·intro hc2;have hL:b5r st.1 s=true:=by simpa using hc2
     have hn:b3t fl ins L (i+1)=(c9h st.1 st.2.1 s,c6h st.2.1 s,st.2.2):=by rw [hnx,b5o,if_pos hL]
     simp only [hL,b2r];refine zn [6,9,10,13,27,28,29] ⟨?_⟩;refine yQ [6,9,10,27,28,29] ⟨?_⟩;refine yV ⟨?_⟩;refine n11 _ (i+1) ?_ ?_ ?_
     ·refine b1o [6,9,10,27,28,29] [0,1,2,3,9,10,11,7,8] ⟨?_⟩;rw [hn];rfl
     ·exact hlt
     ·show _ < _;omega
   ·intro hc1;have hie:i=L.length:=by omega
    subst hie;refine zn [6,9,10] ⟨?_⟩;refine yR [6,7,8] ⟨?_⟩;refine zq1 ⟨?_⟩;simp only [hR,b2r];exact rta
end Go.Proofs.YtmbbjhopngejaaaGreatDoor
