/- What functions compute. No condition. -/
import Derived.Test.YtmbbjhopngejaaaGreatDoorX33
import Derived.Test.YtmbbjhopngejaaaGreatDoorX28
set_option linter.unusedSimpArgs false
set_option linter.unusedVariables false
set_option linter.defProp false
namespace Go.Proofs.YtmbbjhopngejaaaGreatDoor
open Go Go.Vm
set_option maxHeartbeats 8000000
def c9p (F:List Int) (L:List ByteArray):Nat→List ByteArray
  | 0=>[]
  | i+1=>match L[i]? with
    | some s=>if (i:Int)∈F then c9p F L i else c9p F L i++[s]
    | none=>c9p F L i
theorem d7e (F:List Int) (L:List ByteArray):∀i,(c9p F L i).length≤i
  | 0=>qlw _
  | i + 1=>by
    have h:=d7e F L i;rw [c9p];split
    · split
      · omega
      · rw [qls,ql1];omega
    · omega
theorem f4f {F:List Int} {L:List ByteArray} {z:Nat} (h:∀s∈L,s.size≤z):∀i,∀s∈c9p F L i,s.size≤z
  | 0,s,hs=>by simp [c9p] at hs
  | i + 1,s,hs=>by
    rw [c9p] at hs;split at hs
    · rename_i t ht
      split at hs
      · exact f4f h i s hs
      · rcases qlj.1 hs with q | q
        · exact f4f h i s q
        · rw [qlk] at q;subst q;exact h _ (qlb ht)
    · exact f4f h i s hs
theorem f8v {F:List Int} {L:List ByteArray} {i:Nat} {s:ByteArray} (h:L[i]? =some s) (hF:(i:Int)∈F):c9p F L (i+1)=c9p F L i:=by rw [c9p,h];exact if_pos hF
theorem f6h {F:List Int} {L:List ByteArray} {i:Nat} {s:ByteArray} (h:L[i]? =some s) (hF:(i:Int) ∉ F):c9p F L (i+1)=c9p F L i++[s]:=by rw [c9p,h];exact if_neg hF
theorem d3h {fl:List TA} {ins:List TI} {M N:List ByteArray}:∀k,k≤M.length→b3t fl ins (M++N) k=b3t fl ins M k
  | 0,_=>rfl
  | k+1,h=>by
    rw [b3t,b3t,qlz h,d3h k (by omega)]
theorem d7j {fl:List TA} {ins:List TI} {L:List ByteArray}:∀i,∀j:Nat,(j:Int)∈(b3t fl ins L i).2.2↔j < i∧∃s,L[j]? =some s∧b5r (b3t fl ins L j).1 s=false
  | 0,j=>by simp [b3t]
  | i + 1,j=>by
    have ih:=d7j (fl:=fl) (ins:=ins) (L:=L) i j;rw [b3t];split
    · rename_i s hs
      rw [b5o];split
      · rename_i q
        rw [ih];constructor
        · rintro ⟨h,h2⟩;exact ⟨Nat.lt_succ_of_lt h,h2⟩
        · rintro ⟨h,t,h2,h3⟩
          refine ⟨?_,t,h2,h3⟩;rcases qmf j i with e | e
          · exact e
          · have:j=i:=by omega
            subst this;rw [hs] at h2;cases h2;rw [q] at h3;cases h3
      · rename_i q
        rw [qlj,qlk,ih];constructor
        · rintro (⟨h,h2⟩ | h)
          · exact ⟨Nat.lt_succ_of_lt h,h2⟩
          · have:j=i:=by omega
            subst this;exact ⟨Nat.lt_succ_self _,s,hs,by simpa using q⟩
        · rintro ⟨h,h2⟩
          rcases qmf j i with e | e
          · exact .inl ⟨e,h2⟩
          · right;omega
    · rename_i hs
      rw [ih];constructor
      · rintro ⟨h,h2⟩;exact ⟨Nat.lt_succ_of_lt h,h2⟩
      · rintro ⟨h,t,h2,h3⟩
        refine ⟨?_,t,h2,h3⟩;rcases qmf j i with e | e
        · exact e
        · have:j=i:=by omega
          subst this;rw [hs] at h2;cases h2
theorem d7v {fl:List TA} {ins:List TI} {L:List ByteArray}:∀i,i≤L.length→
    b3t fl ins (c9p (b3t fl ins L L.length).2.2 L i) (c9p (b3t fl ins L L.length).2.2 L i).length=((b3t fl ins L i).1,(b3t fl ins L i).2.1,[])
  | 0,_=>by simp [c9p,b3t]
  | i + 1,h=>by
    have ih:=d7v (fl:=fl) (ins:=ins) (L:=L) i (by omega);obtain ⟨s,hs⟩:∃s,L[i]? =some s:=⟨_,qla h⟩;have hm:=d7j (fl:=fl) (ins:=ins) (L:=L) L.length i;obtain ⟨M,hM⟩:∃M,M=c9p (b3t fl ins L L.length).2.2 L i:=⟨_,rfl⟩;rw [←hM] at ih;rw [c6u hs,b5o];split
    · rename_i q
      rw [f6h hs (fun e=>by
        obtain ⟨_,t,h2,h3⟩:=hm.1 e;rw [hs] at h2;cases h2;rw [q] at h3;cases h3),←hM,qls,ql1]
      rw [c6u (L:=M++[s]) (i:=M.length) (s:=s) (by simp),d3h _ (qlw _),ih,b5o,if_pos q]
    · rename_i q
      rw [f8v hs (hm.2 ⟨by omega,s,hs,by simpa using q⟩),←hM,ih]
theorem f3x (ins:List TI) (s:ByteArray):(c6h ins s).length=ins.length:=by
  rw [c6h];split
  · rfl
  · exact f5v ..
theorem f16 {fl:List TA} {ins:List TI} {L:List ByteArray}:∀i,(b3t fl ins L i).2.1.length=ins.length
  | 0=>rfl
  | i + 1=>by
    have ih:=f16 (fl:=fl) (ins:=ins) (L:=L) i;rw [b3t];split
    · rw [b5o];split
      · exact (f3x ..).trans ih
      · exact ih
    · exact ih
theorem d7y {fl:List TA} {ins:List TI} {L:List ByteArray}:∀i,(b3t fl ins L i).2.2.length≤i
  | 0=>qlw _
  | i + 1=>by
    have ih:=d7y (fl:=fl) (ins:=ins) (L:=L) i;rw [b3t];split
    · rw [b5o];split
      · exact Nat.le_succ_of_le ih
      · simp only [aQ,fQ,List.length_append,List.length_singleton];omega
    · exact Nat.le_succ_of_le ih
theorem d0z {n:Int} {ss:List TS} {fl:List TA} {ins:List TI} {ws:List TW} (h:CtlProp n ss fl ins ws) {a:TA} (ha:a∈fl):cmB ins a.1=decide (1≤a.2.2.2.2∧a.2.2.2.2≤3):=by
  have h1:b8d ins=true:=(c1r ins).2 h.inc;have h2:=h.ap a ha;simp only [c0r,Bool.and_eq_true] at h2;rw [cmB,h1,h2.1.1.1.1];have:=(h.busy a ha).trans (c3d ins a.1).symm;simp only [Bool.true_and];exact decide_eq_decide.2 this.symm
theorem f7g {ins:List TI} {s:ByteArray} (h:cmB ins s=true):1≤cmN ins s:=by
  have h0:=h;rw [cmB,qld,qld,decide_eq_true_eq] at h;obtain ⟨k,x,hk,_,hf⟩:=b64 h.2;rw [f5b h0 hf hk];exact (((c1r ins).1 h.1.1).each x (qlb hk)).num.1
theorem f54 {n:Int} {ss:List TS} {fl:List TA} {ins:List TI} {ws:List TW} {s:ByteArray} {t:Int} (hB:b2o n ss fl ins ws=true) (hA:c18 fl s t=true):cmB (c9m ins s t) s=(decide (t=2) || decide (t=3)):=by
  have hk:=(b5q ..).1 (c6r hB hA);rw [c18,c4i,qld,qld,qld,qld,decide_eq_true_eq,decide_eq_true_eq,decide_eq_true_eq,decide_eq_true_eq,Bool.not_eq_true',decide_eq_false_iff_not] at hA;obtain ⟨⟨⟨hf,ht⟩,hnx⟩,ht1⟩:=hA;obtain ⟨k,a,hk1,hks,hkf⟩:=c1x hf;rw [d2d hkf hk1] at hk;have hmem:(a.1,a.2.1,a.2.2.1,a.2.2.2.1,t)∈fl.set k (a.1,a.2.1,a.2.2.1,a.2.2.2.1,t):=qlu.2 ⟨k,by rw [qlp];exact (qlc.1 hk1).1,List.getElem_set_self ..⟩;have:=d0z hk hmem;simp only [hks] at this;rw [this,←Bool.decide_or];exact decide_eq_decide.2 (by omega)
theorem d1w {n:Int} {ss:List TS} {fl:List TA} {ins:List TI} {ws:List TW} (h:CtlProp n ss fl ins ws):b4x fl=true:=by
  rw [b4x,qld,c86 (bf:=c4h) (fun a b c h k=>b8g (show b2x a.1 b.1=true from h) (show b2x b.1 c.1=true from k)),decide_eq_true_eq];exact ⟨⟨h.ap,h.srt⟩,by have:=h.fl12;omega⟩
structure ArrOK (fl:List TA) (ins:List TI) (s:ByteArray) (k:Nat) (a:TA):Prop where
  cm:cmB ins s=true
  fd:fdB (d5e fl ins s) s=true
  at_:b3o (d5e fl ins s) s=(k:Int)
  get:(d5e fl ins s)[k]? =some a
  st:a.2.2.2.2=3
  nd:∀y∈ins,y.1=cmN ins s→y.2.1=a.2.2.1
theorem f8x {n:Int} {ss:List TS} {fl:List TA} {ins:List TI} {ws:List TW} {s:ByteArray} (hB:b2o n ss fl ins ws=true) (hA:b9t fl s=true):∃k a,ArrOK fl ins s k a:=by
  have h:=(b5q ..).1 hB;have h':=(b5q ..).1 (d1s hB hA);rw [b9t,qld,decide_eq_true_eq,decide_eq_true_eq] at hA;obtain ⟨k,a,hk,hks,hkf⟩:=c1x hA.1;have hst:=c98 hkf hk;have h2:a.2.2.2.2=2:=by rw [←hst];exact hA.2
  have ham:=qlb hk;have hcb:=d0z h ham;rw [hks,decide_eq_true (show 1≤a.2.2.2.2∧a.2.2.2.2≤3 by omega)] at hcb;have hcm:=hcb;rw [cmB,qld,qld,decide_eq_true_eq] at hcm;obtain ⟨m,x,hm,_,hmf⟩:=b64 hcm.2;have hF:=d17 hkf hk hmf hm;have hg:(d5e fl ins s)[k]? =some (a.1,a.2.1,x.2.1,a.2.2.2.1,3):=by rw [hF,qlo (qlc.1 hk).1]
  have hfa:0≤b3o (d5e fl ins s) s:=(c8l _ _).2 ⟨_,qlb hg,hks⟩;obtain ⟨k2,a2,hk2,hks2,hkf2⟩:=c1x hfa;have e:k2=k:=c7o h'.srt hk2 hg (by rw [hks2];exact hks.symm);subst e;rw [hk2] at hg;cases hg;refine ⟨k2,_,hcb,?_,hkf2,hk2,rfl,fun y hy he=> ?_⟩
  · rw [fdB,d1w h',decide_eq_true hfa];rfl
  · rw [f5b hcb hmf hm] at he
    obtain ⟨j,hj,rfl⟩:=qlu.1 hy;have:j=m:=by
      rcases Nat.lt_trichotomy j m with q | q | q
      · have:=c1v h.inc.num (qla hj) hm q;omega
      · exact q
      · have:=c1v h.inc.num hm (qla hj) q;omega
    subst this;have e2:ins[j]=x:=(qlc.1 hm).2;rw [e2]
set_option maxRecDepth 8000 in
theorem b4w (fl:List TA) (ins:List TI) (ws:List TW) (hl:fl.length≤1048576) (hil:ins.length≤1048576) (hin:∀t∈ins,t.2.2.2.length≤1048576) (hwl:ws.length≤1048576) (hwn:∀w∈ws,w.2.length≤1048576):Con Tryz.prog 8 [kQ fl ins ws,kQ fl ins ws] [] (.bool true) []:=by
 refine zcn [.tmp 4] [] Tryz.func8 Tryz.ntmps8 ⟨?_⟩;intro Q0 n0 r0;have T:=f72 Ty.t3 Ty.t4 Ty.t9 Ty.t27 Ty.t28 Ty.t29 Ty.t31 Ty.t32 Ty.t35 Ty.t53 Ty.t55 Ty.t91;have F:=Fc.mk True.intro;refine yR [2,3] ⟨?_⟩;refine b0e ?_;intros;refine d2w [2,3,28] (c9i fl hl) (c4a ins hil hin) ⟨?_⟩;refine b18 _ rfl ?_ ?_
 ·intro hc0;exfalso;simp at hc0
 ·intro hc0;try simp only [zC,reduceCtorEq] at hc0
  refine zn [2,3] ⟨?_⟩;refine b0e ?_;intros;refine yR [2,3,31,32] ⟨?_⟩;refine b0i ?_;intros;refine b08 (fun i=>⟨[(2,.ptr 0 0 0),(3,.ptr 1 0 0),(31,.int .i64 ws.length),(32,.int .i64 (Nat.cast i))],[.box (kQ fl ins ws) .shal,.box (kQ fl ins ws) .shal],false,65,0⟩) (fun i=>i≤ws.length) (fun i=>ws.length - i) 0 ?_ ?_ ?_
  ·refine b0d [2,3,31,32] [0,1] ⟨?_⟩;rfl
  ·exact qle _
  ·rintro i hok8 Q8 n8 e8 r8;have hi1:i≤ws.length:=hok8;refine yR [2,3,31,32,33] ⟨?_⟩;refine b0e ?_;intros;refine b0a _ rfl ?_ ?_
   ·intro hc1;have hlt:i < ws.length:=by omega
    obtain ⟨⟨w0,w1⟩,hx⟩:∃x,ws[i]? =some x:=⟨ws[i],qla hlt⟩;have hlx:=hwn _ (qlb hx);have hd0:(w0 == w0)=true:=beq_self_eq_true w0;have hd1:decide (w0=w0)=true:=decide_eq_true rfl;refine zn [2,3,31,32] ⟨?_⟩;refine b0e ?_;intros;refine b0i ?_;intros;have F:=fq3 (gdm hx) hd0 hd1;refine yR [2,3,5,31,32] ⟨?_⟩;refine b0e ?_;intro Q15 n15 e15 r15;refine b1f (by kernel_rfl) ?_;intro K16 q16 k16;show b1r _ _ _ _ 29 (Array.replicate 29 false) _;refine b0h q16 true 0 35 ?_;refine b1i q16 true 1 36 ?_;refine b0t q16 true 2 37 ?_;refine b1z q16 true 3 38 ?_;refine b0h q16 true 4 39 ?_;refine b1i q16 true 5 40 ?_;refine b0h q16 true 6 41 ?_;refine b1i q16 true 7 42 ?_;refine b0t q16 true 8 43 ?_;refine b1z q16 true 9 44 ?_;refine b0h q16 true 10 45 ?_;refine b1i q16 true 11 46 ?_;refine b19 q16 true 12 47 ?_;refine b0t q16 true 13 48 ?_;refine b0c q16 true 14 49 ?_;refine b5a q16 true 15 50 ?_;refine b0z q16 true 16 51 ?_;refine b0x q16 true 17 52 ?_;refine b0c q16 true 18 53 ?_;refine b5a q16 true 19 54 ?_;refine b0c q16 true 20 55 ?_;refine b5a q16 true 21 56 ?_;refine b0z q16 true 22 57 ?_;refine b0x q16 true 23 58 ?_;refine b0c q16 true 24 59 ?_;refine b5a q16 true 25 60 ?_;first
    |refine d2r 26 (c1e w1 hlx) ⟨?_⟩
    |(refine b3c 26 61 13 false rfl rfl (show 61 < 65 by decide) (by kernel_rfl) rfl ?_ ?_;(focus first | rfl | (simp only [zV,b04,Nat.reduceEqDiff,reduceIte];done));simp only [zW,b0k,Nat.reduceEqDiff,reduceIte])
    refine c0b q16 true 27 62 ?_;refine b1p q16 true 28 63 ?_;refine b0b (by kernel_rfl) ?_;refine k16 _ ?_;refine n15 _ _ (b0f [2,3,31,32,63] _) ?_;refine zk ⟨?_⟩;refine b18 _ rfl ?_ ?_
    ·intro hc2;exfalso;simp at hc2
    ·intro hc2;try simp only [zC,reduceCtorEq] at hc2
     refine zn [2,3,31,32] ⟨?_⟩;refine yV ⟨?_⟩;refine n8 _ (i+1) ?_ ?_ ?_
     ·refine b0d [2,3,31,32] [0,1] ⟨?_⟩;rfl
     ·exact hlt
     ·show _ < _;omega
   ·intro hc1;refine zn [] ⟨?_⟩;refine yR [4] ⟨?_⟩;refine zr ⟨?_⟩;exact b0g rfl rfl (.inl rfl)
end Go.Proofs.YtmbbjhopngejaaaGreatDoor
