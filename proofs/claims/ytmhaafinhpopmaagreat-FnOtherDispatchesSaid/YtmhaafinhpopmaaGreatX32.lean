/- What functions compute. No condition. -/
import Derived.Test.YtmhaafinhpopmaaGreatX29
import Derived.Test.YtmhaafinhpopmaaGreatX31
set_option linter.unusedSimpArgs false
set_option linter.unusedVariables false
set_option linter.defProp false
namespace Go.Proofs.YtmhaafinhpopmaaGreat
open Go Go.Vm
set_option maxHeartbeats 8000000
structure SzD (ss:List TS) (fl:List TA) (need:List Int):Prop where
  hs:ss.length≤1048576
  hl:fl.length≤1048576
  hls:∀t∈fl,t.1.size≤9223372036854775807
  hne:need.length≤1048576
theorem SzD.of {ss:List TS} {fl:List TA} {need:List Int} (h1:ss.length≤302) (h2:fl.length≤13) (h3:∀x∈fl,x.1.size≤9) (h4:need.length≤4):SzD ss fl need:=⟨by omega,by omega,fun t ht=>ql4 (h3 t ht) (by decide),by omega⟩
structure OdF (n:Int) (ss:List TS) (fl:List TA) (node:Int) (need:List Int) (lim:Int) (OL:List (List ByteArray)) (M:List Int):Prop where
  hask:askD n ss fl node=true
  hnd:need4 need=true
  hn:(need.length=4∧∀x∈need,0≤x∧x≤6)
  hmk:(askD n ss fl node && need4 need)=true
  ok:∀y∈OL,ChoiceFacts n ss fl node need lim y
  nd:OL.Nodup
  h20:OL.length≤20
  ml:M.length≤1048576
  mb:∀x∈M,0≤x∧x≤1000
  ms:(OL.length:Int)=0∨M.sum=0
  nb:∀x∈need,0≤x∧x≤1000
theorem od_facts {n:Int} {ss:List TS} {fl:List TA} {node:Int} {need:List Int} {lim:Int} {OL:List (List ByteArray)} {M:List Int} (hb:othB n ss fl node need lim=true) (hO:othR n ss fl node need lim=OL) (hM:missR n ss fl node need=M):OdF n ss fl node need lim OL M:=by
  have hb0:=hb;rw [othR,if_pos hb] at hO;rw [othB,qlo,qlo,qlo] at hb;obtain ⟨⟨hask,hnd,hlm⟩,h20⟩:=hb;have hn:=need4_facts hnd;obtain ⟨hd,hu⟩:=ask_facts hask;have hmk:(askD n ss fl node && need4 need)=true:=by rw [hask,hnd];rfl
  rw [missR,if_pos hmk] at hM;have hl0:0≤lim:=by rw [inR,qlo,decide_eq_true_eq] at hlm;exact hlm.1
  have hpf:=pick_facts (fl:=fl) hn (readyL fl (tmL n ss node));have hok:∀y∈OL,ChoiceFacts n ss fl node need lim y:=fun y hy=>choice_ok hd hask hn hl0 (by rw [hO];exact hy)
  refine ⟨hask,hnd,hn,hmk,hok,by rw [←hO];exact oth_nodup hd hn.1,by rw [←hO];simpa using h20,?_,fun x hx=> ?_,?_,fun x hx=>by have:=hn.2 x hx;omega⟩
  · rw [←hM,choiceL,hpf.1];decide
  · rw [←hM,choiceL] at hx
    have:=hpf.2.1 x hx;omega
  · cases OL with
    | nil=>exact .inl rfl
    | cons y l=>exact .inr (by rw [←hM];exact zero_sum (hok y (qle ..)).zero)
theorem nd_ne {α:Type} {l:List α} {i j:Nat} {x y:α} (h:l.Nodup) (hj:j < i) (hx:l[j]? =some x) (hy:l[i]? =some y):x≠y:=by
  obtain ⟨h1,e1⟩:=qlc.1 hx;obtain ⟨h2,e2⟩:=qlc.1 hy;have:=List.pairwise_iff_getElem.1 h j i h1 h2 hj;rw [e1,e2] at this;exact this
set_option maxRecDepth 8000 in
theorem lawFnOtherDispatches_con (c1 c2:List Int) (hc1:∀x∈c1,0≤x∧x≤255) (hc2:∀x∈c2,0≤x∧x≤255) (hn1:c1.length≤9223372036854775807) (hn2:c2.length≤9223372036854775807):Con Tryz.prog 3 [.sl (c1.map (V.int .u8)),.sl (c2.map (V.int .u8))] [] (.bool true) []:=by
 refine v_con [.tmp 4] [] Tryz.func3 rfl rfl rfl (by simp [Tryz.ntmps3]) ?_;intro Q0 n0 r0;simp only [Tryz.ntmps3,envFrom,Nat.reduceAdd];have T:=Tys.mk (ai Ty.t3 (ai Ty.t4 (ai Ty.t5 (ai Ty.t9 (ai Ty.t22 (ai Ty.t24 (ai Ty.t26 (ai Ty.t27 (ai Ty.t28 (ai Ty.t31 (ai Ty.t38 (ai Ty.t72 Ty.t98))))))))))));have F:=Fc.mk True.intro;refine yR [0,1] ⟨?_⟩;refine v_seq ?_;intro Q2 n2 e2 r2;refine yRc [0,1,47] (big_con c1 c2 hn1 hn2) ⟨?_⟩;refine v_condS _ rfl ?_ ?_
 ·intro hc0;refine yR [4] ⟨?_⟩;refine zr ⟨?_⟩;exact ret_pure rfl (by first | rfl | simp) (by first | exact .inl rfl | exact .inr rfl)
 ·intro hc0;refine zn [0,1] ⟨?_⟩;refine v_seqR [1,5,6,7,8,9] ?_;intro K6 k6;refine zMove ⟨?_⟩;refine zxn (drawOth_con c1 hc1 hn1) ⟨?_⟩;rintro _ _ ⟨n,ss,fl,nd1,need,lim,⟨hss,⟨hq1,hq2⟩,hnd⟩,rfl,rfl⟩;refine zEn ⟨?_⟩;have z1:=SzD.of hss hq1 hq2 hnd;obtain ⟨b,hb⟩:∃b,othB n ss fl nd1 need lim=b:=⟨_,rfl⟩;obtain ⟨OL,hO⟩:∃OL,othR n ss fl nd1 need lim=OL:=⟨_,rfl⟩;have hOF:=oth_facts n ss fl nd1 need lim;rw [hO] at hOF;have hOl:=hOF.1;have hOs:=hOF.2.1;refine zMove ⟨?_⟩;refine zq5 ⟨?_⟩;refine zq5 ⟨?_⟩;refine zExtract ⟨?_⟩;refine zq6 ⟨?_⟩;refine zq11 ⟨?_⟩;refine zq11 ⟨?_⟩;refine k6 _ ?_;refine zk ⟨?_⟩;refine yRc [1,5,6,7,8,9,10,11] ((by have q:=implOther_con n ss fl nd1 need lim z1.hs z1.hl z1.hls z1.hne;rw [hb,hO] at q;exact q)) ⟨?_⟩;refine yRc [1,5,6,7,8,9,10,11,12,13] ((by have q:=specOther_con n ss fl nd1 need lim z1.hs z1.hl z1.hls z1.hne;rw [hb,hO] at q;exact q)) ⟨?_⟩;refine v_seq ?_;intros;refine yRg [1,5,6,7,8,9,11,12,82] (pSameLists_con OL hOl hOs) ⟨?_⟩;refine v_cond _ rfl ?_ ?_
  ·intro hc1;exfalso;simp [nbeq] at hc1
  ·intro hc1;try simp only [zC,reduceCtorEq] at hc1
   refine zn [1,5,6,7,8,9,11,12] ⟨?_⟩;refine v_join (A:=Unit) (fun u0=>⟨[(1,.sl (c2.map (V.int .u8)))],[],true,287,0⟩) (fun u0=>True) ?_ ?_
   ·intro Q12 n12 e12 r12;refine yR [1,5,6,7,8,9,12,83] ⟨?_⟩;refine v_condS _ rfl ?_ ?_
    ·intro hc2;have hbt:b=true:=hc2;subst hbt;obtain ⟨M,hM⟩:∃M,missR n ss fl nd1 need=M:=⟨_,rfl⟩;have od:=od_facts hb hO hM;have hms:=od.ms;have h20:=od.h20;refine yRc [1,5,6,7,8,9,12,14,15] ((by have q:=missing_con n ss fl nd1 need z1.hs z1.hl z1.hls z1.hne;rw [od.hmk,hM] at q;exact q)) ⟨?_⟩;refine v_seq ?_;intros;refine yRg [1,5,6,7,8,9,12,108] (pSum_con M od.ml od.mb) ⟨?_⟩;refine v_cond _ rfl ?_ ?_
     ·intro hc3;exfalso;first | (simp at hc3;omega) | omega
     ·intro hc3;try simp only [zC,reduceCtorEq] at hc3
      refine zn [1,5,6,7,8,9,12] ⟨?_⟩;refine yR [1,5,6,7,8,9,12,109,110,111] ⟨?_⟩;refine v_block ?_;intros;refine v_loop (fun i=>⟨[(1,.sl (c2.map (V.int .u8))),(5,.ptr 0 0 0),(6,.sl (fl.map (fun t:TA=>V.agg [V.str t.1,V.int .i64 t.2.1,V.int .i64 t.2.2.1,V.int .i64 t.2.2.2.1,V.int .i64 t.2.2.2.2]))),(7,.int .i64 nd1),(8,.ref 1),(9,.int .i64 lim),(12,.ref 2),(109,.ref 2),(110,.int .i64 OL.length),(111,.int .i64 (Nat.cast i))],[.box (.agg [.int .i64 n,.sl (ss.map (fun t:TS=>V.agg [V.int .i64 t.1,V.int .i64 t.2.1,V.int .i64 t.2.2]))]) .shal,.arr (need.map (V.int .i64)) .flat,.arr (OL.map (fun l:List ByteArray=>V.sl (l.map V.str))) (fillK OL.length)],true,287,0⟩) (fun i=>i≤OL.length) (fun i=>OL.length - i) 0 ?_ ?_ ?_
      ·refine weak_trans (weak_keep [1,5,6,7,8,9,12,109,110,111] _) ?_;simp only [keep_mk,keepE_nil,keepE_cons,look_cons,look_nil,Nat.reduceEqDiff,reduceIte];refine weak_trans weak_view (weak_bothN [1,5,6,7,8,9,12,109,110,111] [2,0,4] ⟨?_⟩);rfl
      ·exact qlk _
      ·rintro i hok21 Q21 n21 e21 r21;have hi1:i≤OL.length:=hok21;refine yR [1,5,6,7,8,9,12,109,110,111,112] ⟨?_⟩;refine v_seq ?_;intros;refine v_condS _ rfl ?_ ?_
       ·intro hc4;have hlt:i < OL.length:=by omega
        obtain ⟨y,hy⟩:∃y,OL[i]? =some y:=⟨_,qla hlt⟩;have hyl:=hOs y (qlb hy);have hcf:=od.ok y (qlb hy);refine zn [1,5,6,7,8,9,12,109,110,111] ⟨?_⟩;refine v_seq ?_;intros;refine v_block ?_;intros;have F:=Fc.mk (gdm hy);refine yR [1,5,6,7,8,9,12,16,17,109,110,111] ⟨?_⟩;refine v_seq ?_;intros;refine yR [1,5,6,7,8,9,12,16,17,109,110,111,118] ⟨?_⟩;refine v_condS _ rfl ?_ ?_
        ·intro hc5;refine zn [1,5,6,7,8,9,12,109,110,111] ⟨?_⟩;refine yV ⟨?_⟩;refine n21 _ (i+1) ?_ ?_ ?_
         ·refine weak_bothS [1,5,6,7,8,9,12,109,110,111] [0,1,2] ⟨?_⟩;rfl
         ·exact hlt
         ·show _ < _;omega
        ·intro hc5;have hyne:y≠[]:=fun e=>hc5 (by rw [e];rfl)
         obtain ⟨ha,hw,hxB,hxV⟩:=choice_extra od.hask od.hnd hcf hyne;obtain ⟨tv,htv⟩:∃tv,attW n ss fl nd1 y=tv:=⟨_,rfl⟩;obtain ⟨ev,hev⟩:∃ev,extraV n ss fl nd1 need y=ev:=⟨_,rfl⟩;rw [htv] at hw;rw [hev] at hxV;have hsum:=hcf.sum;refine zn [1,5,6,7,8,9,12,16,17,109,110,111] ⟨?_⟩;refine yRc [1,5,6,7,8,9,12,16,17,18,19,109,110,111] ((by have q:=implAtt_con n ss fl nd1 y z1.hs z1.hl z1.hls hyl;rw [ha,htv] at q;exact q)) ⟨?_⟩;refine yRc [1,5,6,7,8,9,12,16,17,18,19,20,21,109,110,111] ((by have q:=specAtt_con n ss fl nd1 y z1.hs z1.hl z1.hls hyl;rw [ha,htv] at q;exact q)) ⟨?_⟩;refine yRc [1,5,6,7,8,9,12,16,17,18,19,20,21,22,23,109,110,111] ((by have q:=implExtra_con n ss fl nd1 need y z1.hs z1.hl z1.hls z1.hne hyl;rw [hxB,hev] at q;exact q)) ⟨?_⟩;refine yRc [1,5,6,7,8,9,12,16,17,18,19,20,21,22,23,24,25,109,110,111] ((by have q:=specExtra_con n ss fl nd1 need y z1.hs z1.hl z1.hls z1.hne hyl;rw [hxB,hev] at q;exact q)) ⟨?_⟩;refine v_seq ?_;intros;refine yRg [1,5,6,7,8,9,12,16,17,109,110,111,192] (pSum_con need z1.hne od.nb) ⟨?_⟩;refine v_cond _ rfl ?_ ?_
         ·intro hc6;exfalso;first | (simp [nbeq] at hc6;omega) | (simp [nbeq] at hc6;done)
         ·intro hc6;try simp only [zC,reduceCtorEq] at hc6
          refine zn [1,5,6,7,8,9,12,16,17,109,110,111] ⟨?_⟩;refine yR [1,5,6,7,8,9,12,17,109,110,111,195,196,197] ⟨?_⟩;refine v_block ?_;intros;refine v_loop (fun j=>⟨[(1,.sl (c2.map (V.int .u8))),(5,.ptr 0 0 0),(6,.sl (fl.map (fun t:TA=>V.agg [V.str t.1,V.int .i64 t.2.1,V.int .i64 t.2.2.1,V.int .i64 t.2.2.2.1,V.int .i64 t.2.2.2.2]))),(7,.int .i64 nd1),(8,.ref 1),(9,.int .i64 lim),(12,.ref 2),(17,.sl (y.map V.str)),(109,.ref 2),(110,.int .i64 OL.length),(111,.int .i64 (Nat.cast i)),(195,.sub 2 0 i),(196,.int .i64 (Nat.cast i)),(197,.int .i64 (Nat.cast j))],[.box (.agg [.int .i64 n,.sl (ss.map (fun t:TS=>V.agg [V.int .i64 t.1,V.int .i64 t.2.1,V.int .i64 t.2.2]))]) .shal,.arr (need.map (V.int .i64)) .flat,.arr (OL.map (fun l:List ByteArray=>V.sl (l.map V.str))) (fillK OL.length)],true,287,0⟩) (fun j=>j≤i) (fun j=>i - j) 0 ?_ ?_ ?_
          ·refine weak_bothS [1,5,6,7,8,9,12,17,109,110,111,195,196,197] [0,1,2] ⟨?_⟩;rfl
          ·exact qlk _
          ·rintro j hok41 Q41 n41 e41 r41;have hj1:j≤i:=hok41;refine yR [1,5,6,7,8,9,12,17,109,110,111,195,196,197,198] ⟨?_⟩;refine v_seq ?_;intros;refine v_condS _ rfl ?_ ?_
           ·intro hc7;have hltj:j < i:=by omega
            obtain ⟨y2,hy2⟩:∃y,OL[j]? =some y:=⟨_,qla (by omega)⟩;have hne2:=nd_ne od.nd hltj hy2 hy;have hyl2:=hOs y2 (qlb hy2);refine zn [1,5,6,7,8,9,12,17,109,110,111,195,196,197] ⟨?_⟩;refine v_seq ?_;intros;refine v_block ?_;intros;have F:=Fc.mk (ai (gdm hy) (gdm hy2));refine yR [1,5,6,7,8,9,12,17,27,109,110,111,195,196,197] ⟨?_⟩;refine yRc [1,5,6,7,8,9,12,17,109,110,111,195,196,197,203] (pSameTextsE_con y2 y hyl2) ⟨?_⟩;refine v_cond _ rfl ?_ ?_
            ·intro hc8;exfalso;first | exact hne2 hc8 | (simp at hc8;exact hne2 hc8)
            ·intro hc8;try simp only [zC,reduceCtorEq] at hc8
             refine zn [1,5,6,7,8,9,12,17,109,110,111,195,196,197] ⟨?_⟩;refine yV ⟨?_⟩;refine n41 _ (j+1) ?_ ?_ ?_
             ·refine weak_bothS [1,5,6,7,8,9,12,17,109,110,111,195,196,197] [0,1,2] ⟨?_⟩;rfl
             ·exact hltj
             ·show _ < _;omega
           ·intro hc7;refine zn [1,5,6,7,8,9,12,109,110,111] ⟨?_⟩;refine yV ⟨?_⟩;refine n21 _ (i+1) ?_ ?_ ?_
            ·refine weak_bothS [1,5,6,7,8,9,12,109,110,111] [0,1,2] ⟨?_⟩;rfl
            ·exact hlt
            ·show _ < _;omega
       ·intro hc4;refine zx ⟨?_⟩;refine n12 () _ ?_ ?_
        ·trivial
        ·exact weak_same [1] []
    ·intro hc2;refine v_skip ?_;refine n12 () _ ?_ ?_
     ·trivial
     ·exact weak_trans weak_view (weak_same [1] [])
   ·rintro u0 hok12;have _hu:True:=hok12;refine v_seqR [1,28,29,30,31] ?_;intro K52 k52;have F:=Fc.mk True.intro;refine zMove ⟨?_⟩;refine zxn (drawRank_con c2 hc2 hn2) ⟨?_⟩;rintro _ _ ⟨n2,ss2,fl2,nd2,nm2,⟨hss2,⟨hr1,hr2⟩,hnm2⟩,rfl,rfl⟩;refine zEn ⟨?_⟩;have z2:=SzD.of (need:=[]) hss2 hr1 hr2 (by simp);obtain ⟨rb,hrb⟩:∃rb,attR n2 ss2 fl2 nd2 nm2=rb:=⟨_,rfl⟩;obtain ⟨rv,hrv⟩:∃rv,rankV n2 ss2 fl2 nd2 nm2=rv:=⟨_,rfl⟩;have hrk:rb=true→0≤rv∧rv+(nm2.length:Int)≤(fl2.length:Int):=fun e=>by rw [←hrv];exact rank_le (by rw [hrb];exact e)
    refine zMove ⟨?_⟩;refine zq5 ⟨?_⟩;refine zq5 ⟨?_⟩;refine zq6 ⟨?_⟩;refine zq11 ⟨?_⟩;refine zAssign ⟨?_⟩;refine k52 _ ?_;refine zk ⟨?_⟩;refine yRc [1,28,29,30,31,32,33] ((by have q:=implRank_con n2 ss2 fl2 nd2 nm2 z2.hs z2.hl z2.hls (by omega);rw [hrb,hrv] at q;exact q)) ⟨?_⟩;refine yRc [1,29,31,32,33,34,35] ((by have q:=specRank_con n2 ss2 fl2 nd2 nm2 z2.hs z2.hl z2.hls (by omega);rw [hrb,hrv] at q;exact q)) ⟨?_⟩;refine v_seq ?_;intros;refine yR [1,252] ⟨?_⟩;refine v_cond _ rfl ?_ ?_
    ·intro hc9;exfalso;cases rb with
     |false=>simp [nbeq] at hc9
     |true=>(have hr1:=hrk rfl;simp [nbeq] at hc9;omega)
    ·intro hc9;try simp only [zC,reduceCtorEq] at hc9
     refine zn [1] ⟨?_⟩;refine v_seqR [36,37,38,39,40] ?_;intro K58 k58;refine zMove ⟨?_⟩;refine zxn (drawExtra_con c2 hc2 hn2) ⟨?_⟩;rintro _ _ ⟨n3,ss3,fl3,nd3,need3,nm3,⟨hss3,⟨hs1,hs2⟩,hnd3,hnm3⟩,rfl,rfl⟩;refine zEn ⟨?_⟩;have z3:=SzD.of hss3 hs1 hs2 hnd3;refine zMove ⟨?_⟩;refine zq5 ⟨?_⟩;refine zq5 ⟨?_⟩;refine zExtract ⟨?_⟩;refine zq6 ⟨?_⟩;refine zq11 ⟨?_⟩;refine zq11 ⟨?_⟩;refine k58 _ ?_;refine zk ⟨?_⟩;refine yRc [36,37,38,39,40,41,42] (implExtra_con n3 ss3 fl3 nd3 need3 nm3 z3.hs z3.hl z3.hls z3.hne (by omega)) ⟨?_⟩;refine yRc [41,42,43,44] (specExtra_con n3 ss3 fl3 nd3 need3 nm3 z3.hs z3.hl z3.hls z3.hne (by omega)) ⟨?_⟩;refine yR [4] ⟨?_⟩;refine zr ⟨?_⟩;exact ret_pure rfl (by first | rfl | simp) (by first | exact .inl rfl | exact .inr rfl)
end Go.Proofs.YtmhaafinhpopmaaGreat
