/- What functions compute. No condition. -/
import Derived.Test.YtmbbjhopngejaaaGreatDoorX28
import Derived.Test.YtmbbjhopngejaaaGreatDoorX18
set_option linter.unusedSimpArgs false
set_option linter.unusedVariables false
set_option linter.defProp false
namespace Go.Proofs.YtmbbjhopngejaaaGreatDoor
open Go Go.Vm
set_option maxHeartbeats 8000000
set_option maxRecDepth 100000 in
theorem c7e (n:Int) (ss:List TS) (fl:List TA) (ins:List TI) (ws:List TW) (L:List ByteArray) (hLl:L.length≤1048576) (hLs:∀s∈L,s.size≤1048576) (hs:ss.length≤1048576) (hl:fl.length≤1048576) (hls:∀t∈fl,t.1.size≤9223372036854775807) (hil:ins.length≤1048576) (hin:∀x∈ins,x.2.2.2.length≤1048576) (his:∀x∈ins,∀s∈x.2.2.2,s.size≤9223372036854775807) (hwl:ws.length≤1048576) (hwn:∀x∈ws,x.2.length≤1048576):Con Tryz.prog 6 [tQ n ss,kQ fl ins ws,.sl (L.map V.str)] [] (.tup [.agg [.ref 0,.ref 1,.ref 2],.ref 3,.bool (c9c n ss fl ins ws L)]) [aQ rQa (b3j (c9c n ss fl ins ws L) (b3t fl ins L L.length).1),fQ rQb (b3j (c9c n ss fl ins ws L) (b3t fl ins L L.length).2.1),fQ rQc (b3j (c9c n ss fl ins ws L) ws),.arr ((b3j (c9c n ss fl ins ws L) (b3t fl ins L L.length).2.2).map (V.int .i64)) .flat]:=by
 refine zcn [.cell 6 31,.tmp 7,.tmp 8] [] Tryz.func6 Tryz.ntmps6 ⟨?_⟩;intro Q0 n0 r0;have T:=Tys.mk (ai Ty.t3 (ai Ty.t4 (ai Ty.t9 (ai Ty.t24 (ai Ty.t26 (ai Ty.t27 (ai Ty.t28 (ai Ty.t29 (ai Ty.t31 (ai Ty.t32 (ai Ty.t35 (ai Ty.t53 (ai Ty.t55 (ai Ty.t77 (ai Ty.t79 (ai Ty.t91 Ty.t127))))))))))))))));have F:=Fc.mk True.intro;refine yR [2,3,4,6] ⟨?_⟩;refine b0e ?_;intros;refine d2w [2,4,6,30] (b4z n ss hs) (b4s n ss fl ins ws hs hl hls hil hin his hwl hwn) ⟨?_⟩;refine b0a _ rfl ?_ ?_
 ·intro hc0;have hR:(c9c n ss fl ins ws L)=false:=by
   rw [c9c];cases q:(b2o n ss fl ins ws) with
   |false=>rfl
   |true=>
    have ht:=b6f q;rw [Bool.true_and,decide_eq_false_iff_not];first | (simp [q,ht] at hc0;omega) | (simp [q] at hc0;omega)
  refine yR [6,7,8] ⟨?_⟩;refine zq1 ⟨?_⟩;simp only [aQ,fQ,hR,b2s,List.map_nil,List.length_nil,b41];exact rta
 ·intro hc0;have hB:(b2o n ss fl ins ws)=true:=by
   cases q:(b2o n ss fl ins ws) with
   |true=>rfl
   |false=>simp [q] at hc0
  have h40:(L.length:Int)≤40:=by
   have ht:=b6f hB;first | (simp [hB,ht] at hc0;omega) | omega
  have hR:(c9c n ss fl ins ws L)=true:=by rw [c9c,hB,decide_eq_true h40];rfl
  refine zn [2,4,6] ⟨?_⟩;refine yRc [2,6,9] (b8f fl ins ws hl hil hin hwl hwn) ⟨?_⟩;refine yR [2,6,9,10] ⟨?_⟩;refine b0e ?_;intros;refine yR [6,9,10,33,34,35] ⟨?_⟩;refine b0i ?_;intros;refine b08 (fun i=>⟨[(6,.ptr 3 0 0),(9,.ptr 7 0 0),(10,.ref 8),(33,.sl (L.map V.str)),(34,.int .i64 L.length),(35,.int .i64 (Nat.cast i))],[eQ,eQ,eQ,bQ 0 1 2,.arr ((b3t fl ins L i).1.map rQa) .flat,.arr ((b3t fl ins L i).2.1.map rQb) (b2h (b3t fl ins L i).2.1.length),fQ rQc ws,bQ 4 5 6,.arr ((b3t fl ins L i).2.2.map (V.int .i64)) .flat],false,75,0⟩) (fun i=>i≤L.length) (fun i=>L.length - i) 0 ?_ ?_ ?_
  ·refine b1o [6,9,10,33,34,35] [2,3,4,5,7,8,9,13,14] ⟨?_⟩;rfl
  ·exact qle _
  ·rintro i hok11 Q11 n11 e11 r11;have hi1:i≤L.length:=hok11;refine yR [6,9,10,33,34,35,36] ⟨?_⟩;refine b0e ?_;intros;refine b0a _ rfl ?_ ?_
   ·intro hc1;have hlt:i < L.length:=by omega
    obtain ⟨s,hx⟩:∃s,L[i]? =some s:=⟨_,qla hlt⟩;have hnx:=c6u (fl:=fl) (ins:=ins) hx;have hI:=d1n (L:=L) hB i;obtain ⟨st,hst⟩:∃st,st=b3t fl ins L i:=⟨_,rfl⟩;rw [←hst] at hnx hI;obtain ⟨z1,z2,z3,z4⟩:=d0g hI.ok;have hz:=hLs s (qlb hx);have hfl:=hI.len;rw [←hst];obtain ⟨hca,hcb⟩:=f6b s hz;refine zn [6,9,10,33,34,35] ⟨?_⟩;refine b0e ?_;intros;refine b0i ?_;intros;have F:=Fc.mk (gdm hx);refine yR [6,9,10,11,12,33,34,35] ⟨?_⟩;refine yRc [6,9,10,11,13,14,33,34,35] (f7h s hz) ⟨?_⟩;refine yRc [6,9,10,11,13,14,16,17,33,34,35] (c9n (b52 s) hcb) ⟨?_⟩;refine yR [6,9,10,11,13,14,16,17,18,19,33,34,35] ⟨?_⟩;refine b0e ?_;intros;refine yR [6,9,10,11,13,16,17,18,19,33,34,35,53] ⟨?_⟩;refine b0a _ rfl ?_ ?_
    ·intro hc2;have hat:b52 s=(⟨#[97,116]⟩:ByteArray):=by simpa using hc2
     have hLB:=d72 (fl:=st.1) hat;refine yQc [6,9,10,11,18,19,33,34,35] (c59 n ss st.1 st.2.1 ws (c07 s) z1 z3 z4 hwl hwn hI.ok) ⟨?_⟩;refine yR [6,9,10,11,18,33,34,35,66] ⟨?_⟩;refine b0a _ rfl ?_ ?_
     ·intro hc3;have hq:b9t st.1 (c07 s)=true:=by simpa using hc3
      have hL:b5r st.1 s=true:=by rw [hLB];exact hq
      have hn:b3t fl ins L (i+1)=(d5e st.1 st.2.1 (c07 s),st.2.1,st.2.2):=by rw [hnx,b5o,if_pos hL,c9h,c6h,if_pos hat,if_pos hat]
      simp only [hq,b2r];refine yQ [6,9,10,33,34,35] ⟨?_⟩;refine yV ⟨?_⟩;refine n11 _ (i+1) ?_ ?_ ?_
      ·refine b1o [6,9,10,33,34,35] [0,1,2,3,13,14,15,7,8] ⟨?_⟩;rw [hn];rfl
      ·exact hlt
      ·show _ < _;omega
     ·intro hc3;have hL:b5r st.1 s=false:=by rw [hLB];simpa using hc3
      have hn:b3t fl ins L (i+1)=(st.1,st.2.1,st.2.2++[(i:Int)]):=by rw [hnx,b5o,if_neg (by rw [hL];decide)]
      have hsn:st.2.2.map (V.int .i64)++[V.int .i64 (i:Int)]=(st.2.2++[(i:Int)]).map (V.int .i64):=by simp only [aQ,fQ,List.map_append];try rfl
      refine yQ [6,9,10,33,34,35] ⟨?_⟩;refine yV ⟨?_⟩;refine n11 _ (i+1) ?_ ?_ ?_
      ·refine b1o [6,9,10,33,34,35] [0,1,2,3,4,5,6,7,17] ⟨?_⟩;rw [hn,hsn];rfl
      ·exact hlt
      ·show _ < _;omega
    ·intro hc2;have hat:b52 s≠(⟨#[97,116]⟩:ByteArray):=by simpa using hc2
     refine yR [6,9,10,11,13,16,18,19,33,34,35,59] ⟨?_⟩;refine b0a _ rfl ?_ ?_
     ·intro hc4;have hrb:rdB (b52 s)=true:=by simpa using hc4
      obtain ⟨q1,q2⟩:=f37 (fl:=st.1) hat hrb;refine yQc [6,9,10,11,18,19,33,34,35] (c1g n ss st.1 st.2.1 ws (c07 s) (rdV (b52 s)) z1 z3 z4 hwl hwn z2 hI.ok) ⟨?_⟩;refine yR [6,9,10,11,18,33,34,35,66] ⟨?_⟩;refine b0a _ rfl ?_ ?_
      ·intro hc5;have hq:c18 st.1 (c07 s) (rdV (b52 s))=true:=by simpa using hc5
       have hL:b5r st.1 s=true:=by rw [q1];exact hq
       have hn:b3t fl ins L (i+1)=(d7k st.1 (c07 s) (rdV (b52 s)),c9m st.2.1 (c07 s) (rdV (b52 s)),st.2.2):=by rw [hnx,b5o,if_pos hL,c9h,c6h,if_neg hat,if_neg hat,q2 hL]
       simp only [hq,b2r];refine yQ [6,9,10,33,34,35] ⟨?_⟩;refine yV ⟨?_⟩;refine n11 _ (i+1) ?_ ?_ ?_
       ·refine b1o [6,9,10,33,34,35] [0,1,2,3,13,14,15,7,8] ⟨?_⟩;rw [hn];rfl
       ·exact hlt
       ·show _ < _;omega
      ·intro hc5;have hL:b5r st.1 s=false:=by rw [q1];simpa using hc5
       have hn:b3t fl ins L (i+1)=(st.1,st.2.1,st.2.2++[(i:Int)]):=by rw [hnx,b5o,if_neg (by rw [hL];decide)]
       have hsn:st.2.2.map (V.int .i64)++[V.int .i64 (i:Int)]=(st.2.2++[(i:Int)]).map (V.int .i64):=by simp only [aQ,fQ,List.map_append];try rfl
       refine yQ [6,9,10,33,34,35] ⟨?_⟩;refine yV ⟨?_⟩;refine n11 _ (i+1) ?_ ?_ ?_
       ·refine b1o [6,9,10,33,34,35] [0,1,2,3,4,5,6,7,17] ⟨?_⟩;rw [hn,hsn];rfl
       ·exact hlt
       ·show _ < _;omega
     ·intro hc4;have hrb:rdB (b52 s)=false:=by simpa using hc4
      have hL:b5r st.1 s=false:=f7o hat hrb;have hn:b3t fl ins L (i+1)=(st.1,st.2.1,st.2.2++[(i:Int)]):=by rw [hnx,b5o,if_neg (by rw [hL];decide)]
      have hsn:st.2.2.map (V.int .i64)++[V.int .i64 (i:Int)]=(st.2.2++[(i:Int)]).map (V.int .i64):=by simp only [aQ,fQ,List.map_append];try rfl
      refine zn [6,9,10,11,18,19,33,34,35] ⟨?_⟩;refine yR [6,9,10,11,18,33,34,35,66] ⟨?_⟩;refine b18 _ rfl ?_ ?_
      ·intro hc6;exfalso;simp at hc6
      ·intro hc6;try simp only [zC,reduceCtorEq] at hc6
       refine yQ [6,9,10,33,34,35] ⟨?_⟩;refine yV ⟨?_⟩;refine n11 _ (i+1) ?_ ?_ ?_
       ·refine b1o [6,9,10,33,34,35] [0,1,2,3,4,5,6,7,14] ⟨?_⟩;rw [hn,hsn];rfl
       ·exact hlt
       ·show _ < _;omega
   ·intro hc1;have hie:i=L.length:=by omega
    subst hie;refine zn [6,9,10] ⟨?_⟩;refine yR [6,7,8] ⟨?_⟩;refine zq1 ⟨?_⟩;simp only [hR,b2r];exact rta
theorem b4p {m:Nat} {s:St} (t i:Nat) (cs:List V) (ht:s.get t=.ptr i 0 0) (hO:s.O[i]? =some (.box (.agg cs) .shal)):b6j m s {s with env:=(t,.pv [.agg cs] 0 0)::s.env,O:=s.O.set i .dead}:=by
  intro cx a w μ ow hmu h;have hli:i < s.O.length:=(qlc.1 hO).1;refine ⟨μ,b80 ow i,h.dfr,h.sz,fun t2=> ?_,fun j bk e=> ?_,fun j hj=>h.dom j (by rwa [qlp] at hj),fun b hb=>h.owl b (b66 hb),fun b hb=>h.own b (b66 hb),h.frm,h.mu⟩
  · obtain ⟨bl,r1,r2⟩:=h.env t2
    show ∃bl,Rep w μ (Vm.look t2 ((t,V.pv [.agg cs] 0 0)::s.env)) _ bl∧_;rw [b0j]
    by_cases q:t2=t
    · subst q
      rw [if_pos rfl];rw [ht] at r1;have hrow:b48 cx w μ ow s.vw i [.agg cs] .shal:=h.blk i _ hO;obtain ⟨l,h1,h2,h3⟩:=hrow;generalize a.tmps.getD t2 undef=x at r1⊢;cases r1 with
      | ptr _ _ _ l' hl hi=>
        rw [hl] at h1;obtain rfl:=Option.some.inj h1;rcases h3 with ⟨_,h3⟩ | ⟨h3,h4,bl,h5,h6,h7⟩
        · cases h3
        · obtain ⟨vs,c1,c2,c3⟩:=h5.rowOf
          have hcl:=h5.each _ (qlh ..);have c1':RepL w M0 cs vs bl:=by
            have q9:RepL w (Kd.shal.mu μ) cs vs bl:=by simpa [V.cells] using c1
            exact q9
          have hpv:=Rep.pv (w:=w) (μ:=μ) [.agg cs] 0 0 l'.b l'.off l'.sz vs bl (by simp) h5.sz (by
            intro y hy;simp at hy;subst hy;exact hcl) (by simpa [V.cells] using c1') c2 c3
          refine ⟨_,hpv,fun b hb=> ?_⟩;rcases qlt.1 hb with e | e
          · subst e
            exact ⟨.inl (c06 h4),.inr (h.own _ (by rw [h4];simp))⟩
          · exact b7v i (h6 b e)
    · rw [if_neg q]
      exact ⟨bl,r1,fun b hb=>b7v i (r2 b hb)⟩
  · have e2:(s.O.set i .dead)[j]? =some bk:=e
    by_cases q:j=i
    · subst q
      rw [qlo hli] at e2;simp only [Option.some.injEq] at e2;subst e2;trivial
    · rw [qlg (fun z=>q z.symm)] at e2
      have:=h.blk j bk e2;cases bk with
      | dead=>trivial
      | arr ys k2=>exact b84 q this
      | box y k2=>exact b84 q this
theorem c57 {m:Nat} {s:St} (t i:Nat) (cs:List V) (ht:s.get t=.ptr i 0 0) (hO:s.O[i]? =some (.box (.agg cs) .flat)):b6j m s {s with env:=(t,.pv [.agg cs] 0 0)::s.env,O:=s.O.set i .dead}:=by
  intro cx a w μ ow hmu h;have hli:i < s.O.length:=(qlc.1 hO).1;refine ⟨μ,b80 ow i,h.dfr,h.sz,fun t2=> ?_,fun j bk e=> ?_,fun j hj=>h.dom j (by rwa [qlp] at hj),fun b hb=>h.owl b (b66 hb),fun b hb=>h.own b (b66 hb),h.frm,h.mu⟩
  · obtain ⟨bl,r1,r2⟩:=h.env t2
    show ∃bl,Rep w μ (Vm.look t2 ((t,V.pv [.agg cs] 0 0)::s.env)) _ bl∧_;rw [b0j]
    by_cases q:t2=t
    · subst q
      rw [if_pos rfl];rw [ht] at r1;have hrow:b48 cx w μ ow s.vw i [.agg cs] .flat:=h.blk i _ hO;obtain ⟨l,h1,h2,h3⟩:=hrow;generalize a.tmps.getD t2 undef=x at r1⊢;cases r1 with
      | ptr _ _ _ l' hl hi=>
        rw [hl] at h1;obtain rfl:=Option.some.inj h1;rcases h3 with ⟨_,h3⟩ | ⟨h3,h4,bl,h5,h6,h7⟩
        · cases h3
        · have hb0:bl=[]:=h6
          subst hb0;obtain ⟨vs,c1,c2,c3⟩:=h5.rowOf;have hcl:=h5.each _ (qlh ..);have c1':RepL w M0 cs vs []:=by
            have q9:RepL w (Kd.flat.mu μ) cs vs []:=by simpa [V.cells] using c1
            exact q9
          have hpv:=Rep.pv (w:=w) (μ:=μ) [.agg cs] 0 0 l'.b l'.off l'.sz vs [] (by simp) h5.sz (by
            intro y hy;simp at hy;subst hy;exact hcl) (by simpa [V.cells] using c1') c2 c3
          refine ⟨_,hpv,fun b hb=> ?_⟩;rw [qlk] at hb;subst hb;exact ⟨.inl (c06 h4),.inr (h.own _ (by rw [h4];simp))⟩
    · rw [if_neg q]
      exact ⟨bl,r1,fun b hb=>b7v i (r2 b hb)⟩
  · have e2:(s.O.set i .dead)[j]? =some bk:=e
    by_cases q:j=i
    · subst q
      rw [qlo hli] at e2;simp only [Option.some.injEq] at e2;subst e2;trivial
    · rw [qlg (fun z=>q z.symm)] at e2
      have:=h.blk j bk e2;cases bk with
      | dead=>trivial
      | arr ys k2=>exact b84 q this
      | box y k2=>exact b84 q this
set_option maxRecDepth 8000 in
theorem d9c (n:Int) (ss:List TS) (a b:Int) (hs:ss.length≤1048576):Con Tryz.prog 164 [tQ n ss,.int .i64 a,.int .i64 b] [] (.int .i64 (b3b (fun x:TS=>decide (x.1=(if b < a then b else a)) && decide (x.2.1=(if b > a then b else a))) 0 ss)) []:=by
 obtain ⟨lo,hlo⟩:∃lo,lo=if b < a then b else a:=⟨_,rfl⟩;obtain ⟨hi,hhi⟩:∃hi,hi=if b > a then b else a:=⟨_,rfl⟩;have c1:=c2u a b;have c2:=c5c a b;rw [←hlo] at c1;rw [←hhi] at c2;simp only [←hlo,←hhi];refine zcn [.tmp 6] [] Tryz.func164 Tryz.ntmps164 ⟨?_⟩;intro Q0 n0 r0;have T:=tq4 Ty.t3 Ty.t24 Ty.t26 Ty.t127;have F:=Fc.mk True.intro;refine yR [1,2,3] ⟨?_⟩;refine b0e ?_;intro Q2 n2 e2 r2;refine yR [1,2,10,11,12] ⟨?_⟩;refine b0i ?_;intros;refine b08 (fun i=>⟨[(1,.int .i64 a),(2,.int .i64 b),(10,sQ rQd ss),(11,.int .i64 ss.length),(12,.int .i64 (Nat.cast i))],[],false,33,0⟩) (fun i=>i≤ss.length∧b3b (fun x:TS=>decide (x.1=lo) && decide (x.2.1=hi)) i (ss.drop i)=b3b (fun x:TS=>decide (x.1=lo) && decide (x.2.1=hi)) 0 ss) (fun i=>ss.length - i) 0 ?_ ?_ ?_
 ·refine b0d [1,2,10,11,12] [] ⟨?_⟩;rfl
 ·exact ⟨qle _,rfl⟩
 ·rintro i hok5 Q5 n5 e5 r5;obtain ⟨hi1,hR⟩:=hok5;refine yR [1,2,10,11,12,13] ⟨?_⟩;refine b0e ?_;intros;refine b0a _ rfl ?_ ?_
  ·intro hc0;have hlt:i < ss.length:=by omega
   obtain ⟨⟨x0,x1,x2⟩,hx⟩:∃x:TS,ss[i]? =some x:=⟨ss[i]'(by omega),qla (by omega)⟩;have hst:=b50 (p:=(fun x:TS=>decide (x.1=lo) && decide (x.2.1=hi))) hx;refine zn [1,2,10,11,12] ⟨?_⟩;refine b0e ?_;intros;refine b0i ?_;intros;have F:=Fc.mk (gdm hx);refine yR [1,2,7,8,10,11,12] ⟨?_⟩;refine b0e ?_;intro Q12 n12 e12 r12;refine b1f (by kernel_rfl) ?_;intro K13 q13 k13;show b1r _ _ _ _ 14 (Array.replicate 14 false) _;refine b0h q13 true 0 17 ?_;refine b1d q13 true 1 18 ?_;refine b0t q13 true 2 19 ?_;refine b0t q13 true 3 20 ?_;refine zoc 4 (c1) ⟨?_⟩;refine b19 q13 true 5 22 ?_;refine b0t q13 true 6 23 ?_;refine b0c q13 true 7 24 ?_;refine b0r q13 true 8 25 ?_;refine b0z q13 true 9 26 ?_;refine b0z q13 true 10 27 ?_;first
   |refine d2r 11 (c2) ⟨?_⟩
   |(refine b3c 11 28 6 true rfl rfl (show 28 < 33 by decide) (by kernel_rfl) rfl ?_ ?_;(focus first | rfl | (simp only [zV,b04,Nat.reduceEqDiff,reduceIte];done));simp only [zW,b0k,Nat.reduceEqDiff,reduceIte])
   refine b0y q13 true 12 29 ?_;refine b1p q13 true 13 30 ?_;refine b0b (by kernel_rfl) ?_;refine k13 _ ?_;refine n12 _ _ (b0f [1,2,7,10,11,12,30] _) ?_;refine zk ⟨?_⟩;refine b0a _ rfl ?_ ?_
   ·intro hc1;have hq:(fun x:TS=>decide (x.1=lo) && decide (x.2.1=hi)) (x0,x1,x2)=true:=by
     by_cases e1:x0=lo<;>by_cases e2:x1=hi<;>simp [e1,e2] at hc1⊢
    refine yR [6] ⟨?_⟩;refine zr ⟨?_⟩;exact b0g rfl (by rw [←hR,hst,if_pos hq]) (.inl rfl)
   ·intro hc1;have hq:(fun x:TS=>decide (x.1=lo) && decide (x.2.1=hi)) (x0,x1,x2)=false:=by
     by_cases e1:x0=lo<;>by_cases e2:x1=hi<;>simp [e1,e2] at hc1⊢
    refine zn [1,2,10,11,12] ⟨?_⟩;refine yV ⟨?_⟩;refine n5 _ (i+1) ?_ ?_ ?_
    ·refine b0d [1,2,10,11,12] [] ⟨?_⟩;rfl
    ·exact ⟨hlt,by rw [←hR,hst,if_neg (ne_true_of_eq_false hq)]⟩
    ·show _ < _;omega
  ·intro hc0;refine zn [] ⟨?_⟩;refine yR [6] ⟨?_⟩;refine zr ⟨?_⟩;exact b0g rfl (by rw [←hR,b7h (by omega)]) (.inl rfl)
set_option maxRecDepth 8000 in
theorem c3w (n:Int) (ss:List TS) (y0 y1 y2:Int) (hs:ss.length≤1000000):b74 Tryz.prog 134 [tQ n ss,.agg [.int .i64 y0,.int .i64 y1,.int .i64 y2]] [] (fun r O'=>∃(l:List TS) (b:Bool),(l.length≤ss.length+1)∧r=.tup [.agg [.int .i64 (bif b then n else 0),.ref 0],.bool b]∧O'=[aQ rQd l]):=by
 obtain ⟨lo,hlo⟩:∃lo,lo=if y1 < y0 then y1 else y0:=⟨_,rfl⟩;obtain ⟨hi,hhi⟩:∃hi,hi=if y1 > y0 then y1 else y0:=⟨_,rfl⟩;have c1:=c2u y0 y1;have c2:=c5c y0 y1;rw [←hlo] at c1;rw [←hhi] at c2;have hn1:∀m:Nat,((ss.take m).map rQd).all V.noSl=true:=fun m=>by rw [List.all_map,qlf];intro a _;rfl
 have hn2:∀m:Nat,((ss.drop m).map rQd).all V.noSl=true:=fun m=>by rw [List.all_map,qlf];intro a _;rfl
 have hyl:Int.natAbs y2=Int.natAbs y2:=rfl;refine zcx [.cell 4 26,.tmp 5] [] Tryz.func134 Tryz.ntmps134 ⟨?_⟩;intro Q0 n0 r0;have T:=tq5 Ty.t3 Ty.t4 Ty.t24 Ty.t26 Ty.t127;have F:=Fc.mk True.intro;have F:=fq2 hn1 hn2;refine yR [2,3,4] ⟨?_⟩;refine b0e ?_;intros;refine c6c [2,3,4,27] (c1k n ss (by omega)) (b9u y0 y1 y2 n) (d9c n ss y0 y1 (by omega)) ⟨?_⟩;refine b0a _ rfl ?_ ?_
 ·intro hc0;refine yR [4,5] ⟨?_⟩;refine zq1 ⟨?_⟩;refine b1a ?_;exact ⟨[],false,qle _,rfl,rfl⟩
 ·intro hc0;refine zn [2,3,4] ⟨?_⟩;apply f6y
  ·intro Q6 n6 e6 r6;refine b1f (by kernel_rfl) ?_;intro K7 q7 k7;show b1r _ _ _ _ 15 (Array.replicate 15 false) _;refine b0h q7 true 0 29 ?_;refine b1i q7 true 1 30 ?_;refine b0h q7 true 2 31 ?_;refine b1i q7 true 3 32 ?_;refine b0h q7 true 5 34 ?_;refine b1i q7 true 6 35 ?_;refine b0h q7 true 7 36 ?_;refine b1i q7 true 8 37 ?_;refine b0h q7 true 10 39 ?_;refine b1i q7 true 11 40 ?_;refine b09 4 13 rfl rfl (by kernel_rfl) ?_ ?_
   ·refine zsc (c1) ⟨?_⟩;refine b09 9 13 rfl rfl (by kernel_rfl) ?_ ?_
    ·refine zsc (c2) ⟨?_⟩;refine b17 q7 true 12 41 ?_;refine c8u 13 ⟨?_⟩;refine b06 14 ⟨?_⟩;refine b0b (by kernel_rfl) ?_;refine k7 _ ?_;refine n6 _ ?_;exact d7d [2,4,6] [0,1,2,3,4]
    ·refine b4j ⟨?_⟩;refine zoc 9 (c2) ⟨?_⟩;refine b17 q7 true 12 41 ?_;refine b06 14 ⟨?_⟩;refine b0b (by kernel_rfl) ?_;refine k7 _ ?_;refine n6 _ ?_;exact b0q [2,4,6] [0,1,2,3,4]
   ·refine b4j ⟨?_⟩;refine zoc 4 (c1) ⟨?_⟩;refine zoc 9 (c2) ⟨?_⟩;refine b17 q7 true 12 41 ?_;refine b06 14 ⟨?_⟩;refine b0b (by kernel_rfl) ?_;refine k7 _ ?_;refine n6 _ ?_;exact b0q [2,4,6] [0,1,2,3,4]
  ·refine zkm ⟨?_⟩;have F:=fq2 hn1 hn2;refine yR [2,4,6,7] ⟨?_⟩;refine b3u (A:=Nat) (fun k=>⟨[(2,.pv [tQ n ss] 0 0),(4,.ptr 1 0 0),(6,.pv [.agg [.int .i64 lo,.int .i64 hi,.int .i64 y2]] 0 0),(7,.int .i64 (Nat.cast k))],[eQ,.box (.agg [.int .i64 0,.ref 0]) .mix],false,80,0⟩) (fun k=>k≤ss.length) ?_ ?_
   ·intro Q9 n9 e9 r9;refine b0i ?_;intros;refine b08 (fun k=>⟨[(2,.ptr 0 0 0),(4,.ptr 2 0 0),(6,.ptr 3 0 0),(7,.int .i64 (Nat.cast k))],[.box (tQ n ss) .shal,eQ,.box (.agg [.int .i64 0,.ref 1]) .mix,.box (.agg [.int .i64 lo,.int .i64 hi,.int .i64 y2]) .flat],false,80,0⟩) (fun k=>k≤ss.length) (fun k=>ss.length - k) 0 ?_ ?_ ?_
    ·refine b1o [2,4,6,7] [0,2,3,4] ⟨?_⟩;rfl
    ·exact qle _
    ·rintro k hok11 Q11 n11 e11 r11;have hk1:k≤ss.length:=hok11;rcases qmf k ss.length with hkl | hkl
     ·skip;obtain ⟨⟨x0,x1,x2⟩,hx⟩:∃x:TS,ss[k]? =some x:=⟨ss[k]'(by omega),qla (by omega)⟩;have hlt:decide ((k:Int) < (ss.length:Int))=true:=decide_eq_true (by omega);refine b0e ?_;intros;refine b0e ?_;intro Q13 n13 e13 r13;refine b1f (by kernel_rfl) ?_;intro K14 q14 k14;show b1r _ _ _ _ 14 (Array.replicate 14 false) _;have F:=fq4 hn1 hn2 (gdm hx) hlt;refine b0t q14 true 0 42 ?_;refine b0h q14 true 1 43 ?_;refine b1i q14 true 2 44 ?_;refine f0d q14 true 3 45 ?_;refine b19 q14 true 4 46 ?_;refine b0t q14 true 5 47 ?_;refine b0c q14 true 6 48 ?_;refine b5a q14 true 7 49 ?_;refine b0z q14 true 8 50 ?_;refine b0x q14 true 9 51 ?_;refine b5a q14 true 10 52 ?_;refine b5a q14 true 11 53 ?_;first
      |refine d2r 12 (b86 x0 x1 x2 lo hi y2) ⟨?_⟩
      |(refine b3c 12 54 5 true rfl rfl (show 54 < 80 by decide) (by kernel_rfl) rfl ?_ ?_;(focus first | rfl | (simp only [zV,b04,Nat.reduceEqDiff,reduceIte];done));simp only [zW,b0k,Nat.reduceEqDiff,reduceIte])
      refine b1p q14 true 13 55 ?_;refine b0b (by kernel_rfl) ?_;refine k14 _ ?_;refine n13 _ _ (b0f [2,4,6,7,55] _) ?_;refine zk ⟨?_⟩;refine b0a _ rfl ?_ ?_
      ·intro hc1;refine zn [2,4,6,7] ⟨?_⟩;refine b0i ?_;intros;refine yV ⟨?_⟩;refine n11 _ (k+1) ?_ ?_ ?_
       ·refine b1o [2,4,6,7] [0,1,2,3] ⟨?_⟩;rfl
       ·exact hkl
       ·show _ < _;omega
      ·intro hc1;refine zx ⟨?_⟩;refine n9 k _ ?_ ?_
       ·exact hk1
       ·refine b00 (b00 (b4p 2 0 _ rfl rfl) (c57 6 3 _ rfl rfl)) ?_;simp only [List.set_cons_succ,List.set_cons_zero]
        ·exact b0q [2,4,6,7] [1,2]
     ·skip;have hlt:decide ((k:Int) < (ss.length:Int))=false:=decide_eq_false (by omega);refine b0e ?_;intros;refine b0e ?_;intro Q19 n19 e19 r19;refine b1f (by kernel_rfl) ?_;intro K20 q20 k20;show b1r _ _ _ _ 14 (Array.replicate 14 false) _;have F:=fq3 hn1 hn2 hlt;refine b0t q20 true 0 42 ?_;refine b0h q20 true 1 43 ?_;refine b1i q20 true 2 44 ?_;refine f0d q20 true 3 45 ?_;refine b19 q20 true 4 46 ?_;refine b0t q20 true 5 47 ?_;refine b0c q20 true 6 48 ?_;refine b5a q20 true 7 49 ?_;refine b0z q20 true 8 50 ?_;refine b0x q20 true 9 51 ?_;refine b5a q20 true 10 52 ?_;refine b5a q20 true 11 53 ?_;first
      |refine d2r 12 (b86 x0 x1 x2 lo hi y2) ⟨?_⟩
      |(refine b3c 12 54 5 true rfl rfl (show 54 < 80 by decide) (by kernel_rfl) rfl ?_ ?_;(focus first | rfl | (simp only [zV,b04,Nat.reduceEqDiff,reduceIte];done));simp only [zW,b0k,Nat.reduceEqDiff,reduceIte])
      refine b1p q20 true 13 55 ?_;refine b0b (by kernel_rfl) ?_;refine k20 _ ?_;refine n19 _ _ (b0f [2,4,6,7,55] _) ?_;refine zk ⟨?_⟩;refine b18 _ rfl ?_ ?_
      ·intro hc1;exfalso;simp at hc1
      ·intro hc1;try simp only [zC,reduceCtorEq] at hc1
       refine zx ⟨?_⟩;refine n9 k _ ?_ ?_
       ·exact hk1
       ·refine b00 (b00 (b4p 2 0 _ rfl rfl) (c57 6 3 _ rfl rfl)) ?_;simp only [List.set_cons_succ,List.set_cons_zero]
        ·exact b0q [2,4,6,7] [1,2]
   ·rintro k hok9;have hk1:k≤ss.length:=hok9;skip
    ·skip;have htk2:(ss.take k).length=k:=by rw [qlr];omega
     have hdk2:(ss.drop k).length=ss.length - k:=List.length_drop;have hca0:∀y∈(ss.take k).map rQd++[V.agg [V.int .i64 lo,V.int .i64 hi,V.int .i64 y2]],y.cells.length=3:=by
      intro y hy;rcases qlj.1 hy with h | h
      ·obtain ⟨_,_,rfl⟩:=qmo.1 h;rfl
      ·rw [qlk] at h;subst h;rfl
     simp only [V.cells] at hca0;have hca:=eq_true hca0;apply f6y
     ·intro Q22 n22 e22 r22;refine b1f (by kernel_rfl) ?_;intro K23 q23 k23;show b1r _ _ _ _ 19 (Array.replicate 19 false) _;have F:=fq5 hn1 hn2 htk2 hdk2 hca;refine b0h q23 false 0 58 ?_;refine b1i q23 false 1 59 ?_;refine b0h q23 true 3 61 ?_;refine b1i q23 true 4 62 ?_;refine b0t q23 true 5 63 ?_;refine b5t q23 true 6 64 ?_;refine b1i q23 false 8 66 ?_;refine b0h q23 false 11 69 ?_;refine b1i q23 false 12 70 ?_;refine b0t q23 false 13 71 ?_;refine b5t q23 false 14 72 ?_;refine b49 2 9 17 rfl rfl rfl (by kernel_rfl) ?_ ?_ ?_
      ·refine b01 ⟨?_⟩;refine b49 7 9 17 rfl rfl rfl (by kernel_rfl) ?_ ?_ ?_
       ·refine b16 ⟨?_⟩;refine b09 9 17 rfl rfl (by kernel_rfl) ?_ ?_
        ·refine b01 ⟨?_⟩;refine b09 10 17 rfl rfl (by kernel_rfl) ?_ ?_
         ·refine b16 ⟨?_⟩;refine b09 15 17 rfl rfl (by kernel_rfl) ?_ ?_
          ·refine b16 ⟨?_⟩;refine b17 q23 true 16 74 ?_;refine c8u 17 ⟨?_⟩;refine b06 18 ⟨?_⟩;refine b0b (by kernel_rfl) ?_;refine k23 _ ?_;refine n22 _ ?_;exact d7d [4,8] [0,1,2,3,4,5,6,7,8]
          ·refine b4j ⟨?_⟩;refine b0m 15 ⟨?_⟩;refine b17 q23 true 16 74 ?_;refine b06 18 ⟨?_⟩;refine b0b (by kernel_rfl) ?_;refine k23 _ ?_;refine n22 _ ?_;exact b0q [4,8] [0,1,2,3,4,5,8,6,7]
         ·refine b4j ⟨?_⟩;refine b0m 10 ⟨?_⟩;refine b0m 15 ⟨?_⟩;refine b17 q23 true 16 74 ?_;refine b06 18 ⟨?_⟩;refine b0b (by kernel_rfl) ?_;refine k23 _ ?_;refine n22 _ ?_;exact b0q [4,8] [0,1,2,3,4,7,8,5,6]
        ·refine b4j ⟨?_⟩;refine b1j 9 ⟨?_⟩;refine b0m 10 ⟨?_⟩;refine b0m 15 ⟨?_⟩;refine b17 q23 true 16 74 ?_;refine b06 18 ⟨?_⟩;refine b0b (by kernel_rfl) ?_;refine k23 _ ?_;refine n22 _ ?_;exact b0q [4,8] [0,1,2,3,6,7,8,4,5]
       ·refine b01 ⟨?_⟩;refine b09 7 17 rfl rfl (by kernel_rfl) ?_ ?_
        ·refine b16 ⟨?_⟩;refine b09 10 17 rfl rfl (by kernel_rfl) ?_ ?_
         ·refine b16 ⟨?_⟩;refine b09 15 17 rfl rfl (by kernel_rfl) ?_ ?_
          ·refine b16 ⟨?_⟩;refine b17 q23 true 16 74 ?_;refine c8u 17 ⟨?_⟩;refine b06 18 ⟨?_⟩;refine b0b (by kernel_rfl) ?_;refine k23 _ ?_;refine n22 _ ?_;exact b0q [4,8] [0,1,2,4,3,5,6,7,8]
          ·refine b4j ⟨?_⟩;refine b0m 15 ⟨?_⟩;refine b17 q23 true 16 74 ?_;refine b06 18 ⟨?_⟩;refine b0b (by kernel_rfl) ?_;refine k23 _ ?_;refine n22 _ ?_;exact b0q [4,8] [0,1,2,4,3,5,8,6,7]
         ·refine b4j ⟨?_⟩;refine b0m 10 ⟨?_⟩;refine b0m 15 ⟨?_⟩;refine b17 q23 true 16 74 ?_;refine b06 18 ⟨?_⟩;refine b0b (by kernel_rfl) ?_;refine k23 _ ?_;refine n22 _ ?_;exact b0q [4,8] [0,1,2,4,3,7,8,5,6]
        ·refine b4j ⟨?_⟩;refine b0m 7 ⟨?_⟩;refine b0m 10 ⟨?_⟩;refine b0m 15 ⟨?_⟩;refine b17 q23 true 16 74 ?_;refine b06 18 ⟨?_⟩;refine b0b (by kernel_rfl) ?_;refine k23 _ ?_;refine n22 _ ?_;exact b0q [4,8] [0,1,2,6,3,7,8,4,5]
       ·refine b4j ⟨?_⟩;refine b09 7 9 rfl rfl (by kernel_rfl) ?_ ?_
        ·refine b16 ⟨?_⟩;refine b1j 9 ⟨?_⟩;refine b0m 10 ⟨?_⟩;refine b0m 15 ⟨?_⟩;refine b17 q23 true 16 74 ?_;refine b06 18 ⟨?_⟩;refine b0b (by kernel_rfl) ?_;refine k23 _ ?_;refine n22 _ ?_;exact b0q [4,8] [0,1,2,5,6,7,8,3,4]
        ·refine b01 ⟨?_⟩;refine b0m 7 ⟨?_⟩;refine b0m 10 ⟨?_⟩;refine b0m 15 ⟨?_⟩;refine b17 q23 true 16 74 ?_;refine b06 18 ⟨?_⟩;refine b0b (by kernel_rfl) ?_;refine k23 _ ?_;refine n22 _ ?_;exact b0q [4,8] [0,1,2,6,5,7,8,3,4]
      ·refine b01 ⟨?_⟩;refine b09 2 17 rfl rfl (by kernel_rfl) ?_ ?_
       ·refine b01 ⟨?_⟩;refine b09 7 17 rfl rfl (by kernel_rfl) ?_ ?_
        ·refine b16 ⟨?_⟩;refine b09 10 17 rfl rfl (by kernel_rfl) ?_ ?_
         ·refine b16 ⟨?_⟩;refine b09 15 17 rfl rfl (by kernel_rfl) ?_ ?_
          ·refine b16 ⟨?_⟩;refine b17 q23 true 16 74 ?_;refine c8u 17 ⟨?_⟩;refine b06 18 ⟨?_⟩;refine b0b (by kernel_rfl) ?_;refine k23 _ ?_;refine n22 _ ?_;exact b0q [4,8] [0,1,3,4,2,5,6,7,8]
          ·refine b4j ⟨?_⟩;refine b0m 15 ⟨?_⟩;refine b17 q23 true 16 74 ?_;refine b06 18 ⟨?_⟩;refine b0b (by kernel_rfl) ?_;refine k23 _ ?_;refine n22 _ ?_;exact b0q [4,8] [0,1,3,4,2,5,8,6,7]
         ·refine b4j ⟨?_⟩;refine b0m 10 ⟨?_⟩;refine b0m 15 ⟨?_⟩;refine b17 q23 true 16 74 ?_;refine b06 18 ⟨?_⟩;refine b0b (by kernel_rfl) ?_;refine k23 _ ?_;refine n22 _ ?_;exact b0q [4,8] [0,1,3,4,2,7,8,5,6]
        ·refine b4j ⟨?_⟩;refine b0m 7 ⟨?_⟩;refine b0m 10 ⟨?_⟩;refine b0m 15 ⟨?_⟩;refine b17 q23 true 16 74 ?_;refine b06 18 ⟨?_⟩;refine b0b (by kernel_rfl) ?_;refine k23 _ ?_;refine n22 _ ?_;exact b0q [4,8] [0,1,3,6,2,7,8,4,5]
       ·refine b4j ⟨?_⟩;refine b1j 2 ⟨?_⟩;refine b0m 7 ⟨?_⟩;refine b0m 10 ⟨?_⟩;refine b0m 15 ⟨?_⟩;refine b17 q23 true 16 74 ?_;refine b06 18 ⟨?_⟩;refine b0b (by kernel_rfl) ?_;refine k23 _ ?_;refine n22 _ ?_;exact b0q [4,8] [0,1,5,6,2,7,8,3,4]
      ·refine b4j ⟨?_⟩;refine b09 2 9 rfl rfl (by kernel_rfl) ?_ ?_
       ·refine b01 ⟨?_⟩;refine b09 7 9 rfl rfl (by kernel_rfl) ?_ ?_
        ·refine b16 ⟨?_⟩;refine b1j 9 ⟨?_⟩;refine b0m 10 ⟨?_⟩;refine b0m 15 ⟨?_⟩;refine b17 q23 true 16 74 ?_;refine b06 18 ⟨?_⟩;refine b0b (by kernel_rfl) ?_;refine k23 _ ?_;refine n22 _ ?_;exact b0q [4,8] [0,1,4,5,6,7,8,2,3]
        ·refine b01 ⟨?_⟩;refine b0m 7 ⟨?_⟩;refine b0m 10 ⟨?_⟩;refine b0m 15 ⟨?_⟩;refine b17 q23 true 16 74 ?_;refine b06 18 ⟨?_⟩;refine b0b (by kernel_rfl) ?_;refine k23 _ ?_;refine n22 _ ?_;exact b0q [4,8] [0,1,4,6,5,7,8,2,3]
       ·refine b01 ⟨?_⟩;refine b1j 2 ⟨?_⟩;refine b0m 7 ⟨?_⟩;refine b0m 10 ⟨?_⟩;refine b0m 15 ⟨?_⟩;refine b17 q23 true 16 74 ?_;refine b06 18 ⟨?_⟩;refine b0b (by kernel_rfl) ?_;refine k23 _ ?_;refine n22 _ ?_;exact b0q [4,8] [0,1,5,6,4,7,8,2,3]
     ·refine zkm ⟨?_⟩;refine b0e ?_;intros;have F:=fq5 hn1 hn2 htk2 hdk2 hca;refine yRc [4,8,77] (c1k n (ss.take k++[(lo,hi,y2)]++ss.drop k) (by simp;omega)) ⟨?_⟩;refine b0a _ rfl ?_ ?_
      ·intro hc2;refine yR [4,5] ⟨?_⟩;refine zq1 ⟨?_⟩;refine b1a ?_;exact ⟨[],false,qle _,rfl,rfl⟩
      ·intro hc2;refine zn [4,8] ⟨?_⟩;refine yR [4,5] ⟨?_⟩;refine zq1 ⟨?_⟩;refine b1a ?_;exact ⟨(ss.take k++[(lo,hi,y2)]++ss.drop k),true,by simp;omega,rfl,by simp only [aQ,fQ,List.map_append,List.map_cons,List.map_nil];try rfl⟩
end Go.Proofs.YtmbbjhopngejaaaGreatDoor
