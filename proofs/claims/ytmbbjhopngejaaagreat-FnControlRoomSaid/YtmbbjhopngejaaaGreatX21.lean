/- What functions compute. No condition. -/
import Derived.Test.YtmbbjhopngejaaaGreatX20
set_option linter.all false
open Bool renaming and_eq_true → Za, not_eq_true' → Zc, or_eq_false_iff → Zd, not_eq_false' → Ze, and_eq_false_imp → Zi
open Array renaming replicate → Zb
open Int renaming toNat_natCast → Zf
open List renaming map_nil → Zg, length_nil → Zh
namespace Go.Proofs.YtmbbjhopngejaaaGreat
open Go Go.Vm Tryz
set_option maxHeartbeats 8000000
set_option maxRecDepth 8000 in
theorem d97 (s:ByteArray) (hs:s.size≤1048576):Con prog 124 [.str s] [] (.int .i64 (rdN s)) []:=by
 apply zcn [.tmp 2] [] func124 ntmps124;intro _ _ _;have T:=tq4 Y3 Y4 Y5 Y9;have F:=Fc.mk True.intro;apply yR [0];apply b0e;intros;apply b1l [0,18];intro _ k3;apply (g5s);apply zc (b21 _ _ _);apply (zq2);apply (zgU);first
 |(apply f4f 11 4 false rfl (show 11 < 44 by decide) rfl;(focus first | rfl | (simp only [zV,b01,Nat.reduceEqDiff,reduceIte];done));simp only [zW,b0j,Nat.reduceEqDiff,reduceIte])
 |skip
  apply b5y;intro K k;simp only [zE,zL,zN,b0x,b0s,b0j,Nat.reduceEqDiff,reduceIte,Nat.reduceLT,implies_true,forall_const,reduceCtorEq,V.ofValue,V.ofScalar,V.un,V.gd,b01,V.wrap,b1c,aop,b8t,Zf,Int.reduceToNat,Nat.reduceAdd,Nat.reduceLeDiff,Nat.reduceMul,underlying9];repeat (refine ai (by first | omega | (intro h;simp only [Za,Zc,decide_eq_false_iff_not,decide_eq_true_eq,Ze,Zd] at h;omega) | (intros;simp_all;omega)) ?_)
  apply k _;clear k K
 apply (b5q);apply (zgU);apply (zgU);apply (d7v);apply (b5q);apply (f2h);apply (c74);apply k3 _;apply (zk);apply b0c _ rfl
 ·intro hc0;have hH:rdH s=false:=by
   rw [Bool.eq_false_iff];intro q;simp only [rdH,Za,decide_eq_true_eq,Zc,Zi,decide_eq_false_iff_not] at q
   by_cases e:b2q s 0=48<;>simp [e] at hc0 q<;>omega
  apply yR [2];apply (zr);have e:rdN s=-1:=by rw [rdN,if_neg (fun h=>by have:=h.1;rw [hH] at this;cases this)]
  rw [e];exact b0h rfl rfl (.inl rfl)
 ·intro hc0;have hH:rdH s=true:=by
   simp only [rdH,Za,decide_eq_true_eq,Zc,Zi,decide_eq_false_iff_not]
   by_cases e:b2q s 0=48<;>simp [e] at hc0⊢<;>omega
  have hz:1≤s.size∧s.size≤6:=by
   simp only [rdH,Za,decide_eq_true_eq] at hH;exact hH.1
  apply zn [0];apply yR [0,3];apply b0e;intros;apply yR [0,3,4];apply b0g;intros;apply b05 (fun i=>⟨[(0,.str s),(3,.int .i64 (f9h s i)),(4,.int .i64 (Nat.cast i))],[],false,44,0⟩) (fun i=>i≤s.size∧∀k,k < i→c7s s k=true) (fun i=>s.size - i) 0
  ·refine b18 [0,3,4] ?_;simp only [b0r,b0k,b0i,b0f,b0n,Nat.reduceEqDiff,reduceIte];rfl
  ·exact ⟨qle _,fun k h=>absurd h (Nat.not_lt_zero _)⟩
  ·rintro i hok10 Q10 n10 e10 r10;obtain ⟨hi1,hd⟩:=hok10;apply b0e;intros;apply yR [0,3,4,22];apply b0c _ rfl
   ·intro hc1;have hlt:i < s.size:=by omega
    have hbb:=f0j s i;have hvb:=d07 i hd;have hvp:(10:Int) ^ i≤100000:=g5t (by omega);apply zn [0,3,4];apply b0e;intro _ n14 _ _;apply b0g;intro _ n15 _ _ _;apply b0e;intros;apply b1l [0,3,4,34];intro _ k17;apply (zq2);apply b5y;intro K k;simp only [zE,zL,zN,b0x,b0s,b0j,Nat.reduceEqDiff,reduceIte,Nat.reduceLT,implies_true,forall_const,reduceCtorEq,V.ofValue,V.ofScalar,V.un,V.gd,b1c,aop,b8t,Zf,Int.reduceToNat,Nat.reduceAdd,Nat.reduceLeDiff,Nat.reduceMul,underlying9];repeat (refine ai (by first | omega | (intro h;simp only [Za,Zc,decide_eq_false_iff_not,decide_eq_true_eq,Ze,Zd] at h;omega) | (intros;simp_all;omega)) ?_)
    apply k _;clear k K;apply (g0e);apply (zgU);first
    |(apply f4f 32 4 false rfl (show 32 < 44 by decide) rfl;(focus first | rfl | (simp only [zV,b01,Nat.reduceEqDiff,reduceIte];done));simp only [zW,b0j,Nat.reduceEqDiff,reduceIte])
    |skip
     apply b5y;intro K k;simp only [zE,zL,zN,b0x,b0s,b0j,Nat.reduceEqDiff,reduceIte,Nat.reduceLT,implies_true,forall_const,reduceCtorEq,V.ofValue,V.ofScalar,V.un,V.gd,b01,V.wrap,b1c,aop,b8t,Zf,Int.reduceToNat,Nat.reduceAdd,Nat.reduceLeDiff,Nat.reduceMul,underlying9];repeat (refine ai (by first | omega | (intro h;simp only [Za,Zc,decide_eq_false_iff_not,decide_eq_true_eq,Ze,Zd] at h;omega) | (intros;simp_all;omega)) ?_)
     apply k _;clear k K
    apply (b5q);apply (c74);apply k17 _;apply (zk);apply b0c _ rfl
    ·intro hc2;have hno:c7s s i=false:=by
      rw [c7s]
      by_cases e:b2q s i < 48<;>simp [e] at hc2⊢<;>omega
     apply yR [2];apply (zr);have e:rdN s=-1:=by rw [rdN,if_neg (fun h=>by have:=h.2 i hlt;rw [hno] at this;cases this)]
     rw [e];exact b0h rfl rfl (.inl rfl)
    ·intro hc2;have hyes:c7s s i=true:=by
      rw [c7s]
      by_cases e:b2q s i < 48<;>simp [e] at hc2⊢<;>omega
     have hdi:=f8q hyes;have hw1:IntKind.u8.wrap (b2q s i - 48)=b2q s i - 48:=by rw [IntKind.wrap_u8];omega
     have hw2:IntKind.i64.wrap (b2q s i - 48)=b2q s i - 48:=by rw [IntKind.wrap_i64];omega
     apply zn [0,3,4];apply b2u;intro _ k20;have F:=fq2 hw1 hw2;apply (zU);apply (b46);apply (zq2);apply b5y;intro K k;simp only [zE,zL,zN,b0x,b0s,b0j,Nat.reduceEqDiff,reduceIte,Nat.reduceLT,implies_true,forall_const,reduceCtorEq,V.ofValue,V.ofScalar,V.un,V.gd,b1c,aop,b8t,Zf,Int.reduceToNat,Nat.reduceAdd,Nat.reduceLeDiff,Nat.reduceMul,underlying9,hw1,hw2];repeat (refine ai (by first | omega | (intro h;simp only [Za,Zc,decide_eq_false_iff_not,decide_eq_true_eq,Ze,Zd] at h;omega) | (intros;simp_all;omega)) ?_)
     apply k _;clear k K;apply (b46);apply (c4o);apply (b46);apply (b2h);apply k20 _;apply n15 _;apply n14 _ _ (b0a [0,3,4] _);apply (zk);apply (yV);apply n10 _ (i+1)
     ·apply b0d [0,3,4] [];rfl
     ·exact ⟨hlt,f7z hd hyes⟩
     ·show _ < _;omega
   ·intro hc1;apply zn [3];apply yR [2];apply (zr);have hie:i=s.size:=by omega
    subst hie;have e:rdN s=f9h s s.size:=by rw [rdN,if_pos ⟨hH,hd⟩]
    rw [e];exact b0h rfl rfl (.inl rfl)
set_option maxRecDepth 100000 in
theorem d95 (n:Int) (ss:List TS) (fl:List TA) (ins:List TI) (ws:List TW) (s:ByteArray) (hl:fl.length≤1048576) (hil:ins.length≤1048576) (hin:∀x∈ins,x.2.2.2.length≤1048576) (hwl:ws.length≤1048576) (hwn:∀x∈ws,x.2.length≤1048576) (hls:∀t∈fl,t.1.size≤9223372036854775807) (hz:s.size≤1048576) (hB:(b3g n ss fl ins ws)=true):Con prog 71 [kQ fl ins ws,.str s] [] (.tup [.agg [.ref 0,.ref 1,.ref 2],.bool (c1s fl s)]) [aQ rQa (b3r (c1s fl s) (d9q fl ins s)),fQ rQb (b3r (c1s fl s) (g3a ins s)),fQ rQc (b3r (c1s fl s) ws)]:=by
 apply zcn [.cell 4 32,.tmp 5] [] func71 ntmps71;intro _ _ _;have T:=tqa (g5u Y3 Y4 Y5 Y9 Y28 Y29 Y30 Y32 Y41 Y48 Y81) (tq2 Y96 Y98);have F:=Fc.mk True.intro;rcases d1g s with ⟨hw,_⟩ | ⟨hw,_⟩ | ⟨hw,_⟩
 ·skip;have hsp:Con _ _ _ _ _ [.arr ((c6i s).map V.str) .flat]:=c3z s 32 (by omega);have hL:(c1s fl s)=false:=by rw [c1s,hw];rfl
  have F:=Fc.mk hw;apply yR [1,2,4];apply yRc [2,4,6] (hsp);apply b0e;intros;apply yR [2,4,6,12];apply b2a _ rfl
  ·intro hc0;try simp only [zC,reduceCtorEq] at hc0
   apply yR [4,5];apply (zq3);simp only [aQ,fQ,hL,b3e,Zg,Zh,b5t];exact rta
  ·intro hc0;exfalso;simp at hc0
 ·skip;have hsp:Con _ _ _ _ _ [.arr ((c6i s).map V.str) .flat]:=c3z s 32 (by omega);rw [hw] at hsp;simp only [aQ,fQ,List.map_cons,Zg] at hsp;have hcz:=(g0n s hz).2;have F:=Fc.mk True.intro;apply yR [1,2,4];apply yRc [2,4,6] (hsp);apply b0e;intros;apply yR [2,4,6,12];apply b2a _ rfl
  ·intro hc0;exfalso;simp at hc0
  ·intro hc0;try simp only [zC,reduceCtorEq] at hc0
   apply zn [2,4,6];apply b0e;intros;apply yR [2,4,6,17];apply b0c _ rfl
   ·intro hc1;have hat:c2h s=(⟨#[97,116]⟩:ByteArray):=by simpa using hc1
    have hL:(c1s fl s)=d23 fl (d05 s):=f6j hat;have hF:(d9q fl ins s)=g0h fl ins (d05 s):=if_pos hat;have hI:(g3a ins s)=ins:=if_pos hat;apply b0e;intro _ n15 _ _;apply b1b (by kernel_rfl);intro _ q16 k16;show b13 _ _ _ _ 9 (Zb 9 false) _;refine b00 q16 true 0 18 ?_;refine zdU q16 true 1 19 ?_;refine b0z q16 true 2 20 ?_;refine b00 q16 true 3 21 ?_;apply zoc 4 (d57 n ss fl ins ws (d05 s) hl hil hin hwl hwn hB);refine zdU q16 true 5 23 ?_;refine zdU q16 true 6 24 ?_;apply b06 7;apply b0q 8;apply b0b (by kernel_rfl);apply k16 _;apply n15 _ _ (b0a [4,5] _);apply (zq9);rw [hL,hF,hI];exact rta
   ·intro hc1;have hat:c2h s≠(⟨#[97,116]⟩:ByteArray):=by simpa using hc1
    have hL0:(c1s fl s)=(inR (rdN (c2h s)) 0 5 && d8g fl (d05 s) (rdN (c2h s))):=by rw [c1s,hw,if_neg hat];rfl
    have hF:(d9q fl ins s)=f9i fl (d05 s) (rdN (c2h s)):=if_neg hat;have hI:(g3a ins s)=g5e ins (d05 s) (rdN (c2h s)):=if_neg hat;apply zn [2,4,6];apply yRc [2,4,6,7] (d97 (c2h s) hcz);apply b0e;intros;apply yRc [2,4,6,7,31] (b8f (rdN (c2h s)));apply b0c _ rfl
    ·intro hc2;have hL:(c1s fl s)=false:=by
      have q:inR (rdN (c2h s)) 0 5=false:=by first | (rw [inR];simpa using hc2) | (simp [inR] at hc2⊢;omega)
      rw [hL0,q];rfl
     apply yR [4,5];apply (zq3);simp only [aQ,fQ,hL,b3e,Zg,Zh,b5t];exact rta
    ·intro hc2;have hL:(c1s fl s)=d8g fl (d05 s) (rdN (c2h s)):=by
      have q:inR (rdN (c2h s)) 0 5=true:=by first | (rw [inR];simpa using hc2) | (simp [inR] at hc2⊢;omega)
      rw [hL0,q];rfl
     apply zn [2,4,6,7];apply b0e;intro _ n22 _ _;apply b1b (by kernel_rfl);intro _ q23 k23;show b13 _ _ _ _ 10 (Zb 10 false) _;refine b00 q23 true 0 33 ?_;refine zdU q23 true 1 34 ?_;refine b0z q23 true 2 35 ?_;refine b00 q23 true 3 36 ?_;refine zdU q23 true 4 37 ?_;apply zoc 5 (d5q n ss fl ins ws (d05 s) (rdN (c2h s)) hl hil hin hwl hwn hls hB);refine zdU q23 true 6 39 ?_;refine zdU q23 true 7 40 ?_;apply b06 8;apply b0q 9;apply b0b (by kernel_rfl);apply k23 _;apply n22 _ _ (b0a [4,5] _);apply (zq9);rw [hL,hF,hI];exact rta
 ·skip;have hsp:Con _ _ _ _ _ [.arr ((c6i s).map V.str) .flat]:=c3z s 32 (by omega);have hL:(c1s fl s)=false:=by rw [c1s,decide_eq_false (by omega)];rfl
  have hwl:(c6i s).length≤1048577:=by
   have:=c5i s 32 s.size;have:=d3b s 32 s.size;rw [c6i,qln,ql1];omega
  have F:=Fc.mk True.intro;apply yR [1,2,4];apply yRc [2,4,6] (hsp);apply b0e;intros;apply yR [2,4,6,12];apply b2a _ rfl
  ·intro hc0;try simp only [zC,reduceCtorEq] at hc0
   apply yR [4,5];apply (zq3);simp only [aQ,fQ,hL,b3e,Zg,Zh,b5t];exact rta
  ·intro hc0;exfalso;first | omega | (simp at hc0;omega)
theorem b58 {m:Nat} {s:St} (t i:Nat) (cs:List V) (ht:s.get t=.ptr i 0 0) (hO:s.O[i]? =some (.box (.agg cs) .shal)):b44 m s {s with env:=(t,.pv [.agg cs] 0 0)::s.env,O:=s.O.set i .dead}:=by
  intro cx a w μ ow hmu h;have hli:i < s.O.length:=(qlc.1 hO).1;refine ⟨μ,b8z ow i,h.dfr,h.sz,fun t2=> ?_,fun j bk e=> ?_,fun j hj=>h.dom j (by rwa [qlr] at hj),fun b hb=>h.owl b (b7e hb),fun b hb=>h.own b (b7e hb),h.frm,h.mu⟩
  · obtain ⟨bl,r1,r2⟩:=h.env t2
    show ∃bl,Rep w μ (Vm.look t2 ((t,V.pv [.agg cs] 0 0)::s.env)) _ bl∧_;rw [b0f]
    by_cases q:t2=t
    · subst q
      rw [if_pos rfl];rw [ht] at r1;have hrow:b5g cx w μ ow s.vw i [.agg cs] .shal:=h.blk i _ hO;obtain ⟨l,h1,h2,h3⟩:=hrow;generalize a.tmps.getD t2 undef=x at r1⊢;cases r1 with
      | ptr _ _ _ l' hl hi=>
        rw [hl] at h1;obtain rfl:=Option.some.inj h1;rcases h3 with ⟨_,h3⟩ | ⟨h3,h4,bl,h5,h6,h7⟩
        · cases h3
        · obtain ⟨vs,c1,c2,c3⟩:=h5.rowOf
          have hcl:=h5.each _ (qlp ..);have c1':RepL w M0 cs vs bl:=by
            have q9:RepL w (Kd.shal.mu μ) cs vs bl:=by simpa [V.cells] using c1
            exact q9
          have hpv:=Rep.pv (w:=w) (μ:=μ) [.agg cs] 0 0 l'.b l'.off l'.sz vs bl (by simp) h5.sz (by
            intro y hy;simp at hy;subst hy;exact hcl) (by simpa [V.cells] using c1') c2 c3
          refine ⟨_,hpv,fun b hb=> ?_⟩;rcases qlv.1 hb with e | e
          · subst e
            exact ⟨.inl (c13 h4),.inr (h.own _ (by rw [h4];simp))⟩
          · exact b7t i (h6 b e)
    · rw [if_neg q]
      exact ⟨bl,r1,fun b hb=>b7t i (r2 b hb)⟩
  · have e2:(s.O.set i .dead)[j]? =some bk:=e
    by_cases q:j=i
    · subst q
      rw [qlf hli] at e2;simp only [Option.some.injEq] at e2;subst e2;trivial
    · rw [qld (fun z=>q z.symm)] at e2
      have:=h.blk j bk e2;cases bk with
      | dead=>trivial
      | arr ys k2=>exact b80 q this
      | box y k2=>exact b80 q this
theorem c67 {m:Nat} {s:St} (t i:Nat) (cs:List V) (ht:s.get t=.ptr i 0 0) (hO:s.O[i]? =some (.box (.agg cs) .flat)):b44 m s {s with env:=(t,.pv [.agg cs] 0 0)::s.env,O:=s.O.set i .dead}:=by
  intro cx a w μ ow hmu h;have hli:i < s.O.length:=(qlc.1 hO).1;refine ⟨μ,b8z ow i,h.dfr,h.sz,fun t2=> ?_,fun j bk e=> ?_,fun j hj=>h.dom j (by rwa [qlr] at hj),fun b hb=>h.owl b (b7e hb),fun b hb=>h.own b (b7e hb),h.frm,h.mu⟩
  · obtain ⟨bl,r1,r2⟩:=h.env t2
    show ∃bl,Rep w μ (Vm.look t2 ((t,V.pv [.agg cs] 0 0)::s.env)) _ bl∧_;rw [b0f]
    by_cases q:t2=t
    · subst q
      rw [if_pos rfl];rw [ht] at r1;have hrow:b5g cx w μ ow s.vw i [.agg cs] .flat:=h.blk i _ hO;obtain ⟨l,h1,h2,h3⟩:=hrow;generalize a.tmps.getD t2 undef=x at r1⊢;cases r1 with
      | ptr _ _ _ l' hl hi=>
        rw [hl] at h1;obtain rfl:=Option.some.inj h1;rcases h3 with ⟨_,h3⟩ | ⟨h3,h4,bl,h5,h6,h7⟩
        · cases h3
        · have hb0:bl=[]:=h6
          subst hb0;obtain ⟨vs,c1,c2,c3⟩:=h5.rowOf;have hcl:=h5.each _ (qlp ..);have c1':RepL w M0 cs vs []:=by
            have q9:RepL w (Kd.flat.mu μ) cs vs []:=by simpa [V.cells] using c1
            exact q9
          have hpv:=Rep.pv (w:=w) (μ:=μ) [.agg cs] 0 0 l'.b l'.off l'.sz vs [] (by simp) h5.sz (by
            intro y hy;simp at hy;subst hy;exact hcl) (by simpa [V.cells] using c1') c2 c3
          refine ⟨_,hpv,fun b hb=> ?_⟩;rw [qlm] at hb;subst hb;exact ⟨.inl (c13 h4),.inr (h.own _ (by rw [h4];simp))⟩
    · rw [if_neg q]
      exact ⟨bl,r1,fun b hb=>b7t i (r2 b hb)⟩
  · have e2:(s.O.set i .dead)[j]? =some bk:=e
    by_cases q:j=i
    · subst q
      rw [qlf hli] at e2;simp only [Option.some.injEq] at e2;subst e2;trivial
    · rw [qld (fun z=>q z.symm)] at e2
      have:=h.blk j bk e2;cases bk with
      | dead=>trivial
      | arr ys k2=>exact b80 q this
      | box y k2=>exact b80 q this
set_option maxRecDepth 8000 in
theorem g23 (n:Int) (ss:List TS) (a b:Int) (hs:ss.length≤1048576):Con prog 153 [tQ n ss,.int .i64 a,.int .i64 b] [] (.int .i64 (b2r (fun x:TS=>decide (x.1=(if b < a then b else a)) && decide (x.2.1=(if b > a then b else a))) 0 ss)) []:=by
 obtain ⟨lo,hlo⟩:∃lo,lo=if b < a then b else a:=⟨_,rfl⟩;obtain ⟨hi,hhi⟩:∃hi,hi=if b > a then b else a:=⟨_,rfl⟩;have c1:=c3v a b;have c2:=c53 a b;rw [←hlo] at c1;rw [←hhi] at c2;simp only [←hlo,←hhi];apply zcn [.tmp 6] [] func153 ntmps153;intro _ _ _;have T:=tq4 Y3 Y24 Y26 b7w;have F:=Fc.mk True.intro;apply yR [1,2,3];apply b0e;intro _ _ e2 _;apply yR [1,2,10,11,12];apply b0g;intros;apply b05 (fun i=>⟨[(1,.int .i64 a),(2,.int .i64 b),(10,sQ rQd ss),(11,.int .i64 ss.length),(12,.int .i64 (Nat.cast i))],[],false,33,0⟩) (fun i=>i≤ss.length∧b2r (fun x:TS=>decide (x.1=lo) && decide (x.2.1=hi)) i (ss.drop i)=b2r (fun x:TS=>decide (x.1=lo) && decide (x.2.1=hi)) 0 ss) (fun i=>ss.length - i) 0
 ·apply b0d [1,2,10,11,12] [];rfl
 ·exact ⟨qle _,rfl⟩
 ·rintro i hok5 Q5 n5 e5 r5;obtain ⟨hi1,hR⟩:=hok5;apply yR [1,2,10,11,12,13];apply b0e;intros;apply b0c _ rfl
  ·intro hc0;have hlt:i < ss.length:=by omega
   obtain ⟨⟨x0,x1,x2⟩,hx⟩:∃x:TS,ss[i]? =some x:=⟨ss[i]'(by omega),qla (by omega)⟩;have hst:=b5j (p:=(fun x:TS=>decide (x.1=lo) && decide (x.2.1=hi))) hx;apply zn [1,2,10,11,12];apply b0e;intros;apply b0g;intros;have F:=Fc.mk (gdm hx);apply yR [1,2,7,8,10,11,12];apply b0e;intro _ n12 _ _;apply b1b (by kernel_rfl);intro _ q13 k13;show b13 _ _ _ _ 14 (Zb 14 false) _;refine zdU q13 true 0 17 ?_;refine b08 q13 true 1 18 ?_;refine zdU q13 true 2 19 ?_;refine zdU q13 true 3 20 ?_;apply zoc 4 (c1);refine b2b q13 true 5 22 ?_;refine zdU q13 true 6 23 ?_;refine b1n q13 true 7 24 ?_;refine b0p q13 true 8 25 ?_;refine b1n q13 true 9 26 ?_;refine b1n q13 true 10 27 ?_;first
   |apply d3v 11 (c2)
   |(apply b2w 11 28 6 true rfl rfl (show 28 < 33 by decide) (by kernel_rfl) rfl;(focus first | rfl | (simp only [zV,b01,Nat.reduceEqDiff,reduceIte];done));simp only [zW,b0j,Nat.reduceEqDiff,reduceIte])
   refine b0y q13 true 12 29 ?_;refine b1s q13 true 13 30 ?_;apply b0b (by kernel_rfl);apply k13 _;apply n12 _ _ (b0a [1,2,7,10,11,12,30] _);apply (zk);apply b0c _ rfl
   ·intro hc1;have hq:(fun x:TS=>decide (x.1=lo) && decide (x.2.1=hi)) (x0,x1,x2)=true:=by
     by_cases e1:x0=lo<;>by_cases e2:x1=hi<;>simp [e1,e2] at hc1⊢
    apply yR [6];apply (zr);exact b0h rfl (by rw [←hR,hst,if_pos hq]) (.inl rfl)
   ·intro hc1;have hq:(fun x:TS=>decide (x.1=lo) && decide (x.2.1=hi)) (x0,x1,x2)=false:=by
     by_cases e1:x0=lo<;>by_cases e2:x1=hi<;>simp [e1,e2] at hc1⊢
    apply zn [1,2,10,11,12];apply (yV);apply n5 _ (i+1)
    ·apply b0d [1,2,10,11,12] [];rfl
    ·exact ⟨hlt,by rw [←hR,hst,if_neg (ne_true_of_eq_false hq)]⟩
    ·show _ < _;omega
  ·intro hc0;apply zn [];apply yR [6];apply (zr);exact b0h rfl (by rw [←hR,b6g (by omega)]) (.inl rfl)
set_option maxRecDepth 8000 in
theorem c5k (n:Int) (ss:List TS) (y0 y1 y2:Int) (hs:ss.length≤1000000):b76 prog 120 [tQ n ss,.agg [.int .i64 y0,.int .i64 y1,.int .i64 y2]] [] (fun r O'=>∃(l:List TS) (b:Bool),(l.length≤ss.length+1)∧r=.tup [.agg [.int .i64 (bif b then n else 0),.ref 0],.bool b]∧O'=[aQ rQd l]):=by
 obtain ⟨lo,hlo⟩:∃lo,lo=if y1 < y0 then y1 else y0:=⟨_,rfl⟩;obtain ⟨hi,hhi⟩:∃hi,hi=if y1 > y0 then y1 else y0:=⟨_,rfl⟩;have c1:=c3v y0 y1;have c2:=c53 y0 y1;rw [←hlo] at c1;rw [←hhi] at c2;have hn1:∀m:Nat,((ss.take m).map rQd).all V.noSl=true:=fun m=>by rw [qmp,qlk];intro a _;rfl
 have hn2:∀m:Nat,((ss.drop m).map rQd).all V.noSl=true:=fun m=>by rw [qmp,qlk];intro a _;rfl
 have hyl:Int.natAbs y2=Int.natAbs y2:=rfl;apply zcx [.cell 4 26,.tmp 5] [] func120 ntmps120;intro _ _ _;have T:=tq5 Y3 Y4 Y24 Y26 b7w;have F:=Fc.mk True.intro;have F:=fq2 hn1 hn2;apply yR [2,3,4];apply b0e;intros;apply c5h [2,3,4,27] (c2q n ss (by omega)) (c01 y0 y1 y2 n) (g23 n ss y0 y1 (by omega));apply b0c _ rfl
 ·intro hc0;apply yR [4,5];apply (zq3);refine b1g ?_;exact ⟨[],false,qle _,rfl,rfl⟩
 ·intro hc0;apply zn [2,3,4];apply f3j
  ·intro _ n6 _ _;apply b1b (by kernel_rfl);intro _ q7 k7;show b13 _ _ _ _ 15 (Zb 15 false) _;refine zdU q7 true 0 29 ?_;refine b00 q7 true 1 30 ?_;refine zdU q7 true 2 31 ?_;refine b00 q7 true 3 32 ?_;refine zdU q7 true 5 34 ?_;refine b00 q7 true 6 35 ?_;refine zdU q7 true 7 36 ?_;refine b00 q7 true 8 37 ?_;refine zdU q7 true 10 39 ?_;refine b00 q7 true 11 40 ?_;apply b1e 4 13 rfl rfl (by kernel_rfl)
   ·apply zsc (c1);apply b1e 9 13 rfl rfl (by kernel_rfl)
    ·apply zsc (c2);refine b15 q7 true 12 41 ?_;apply c33 13;apply b06 14;apply b0b (by kernel_rfl);apply k7 _;apply n6 _;exact d3h [2,4,6] [0,1,2,3,4]
    ·apply (b35);apply zoc 9 (c2);refine b15 q7 true 12 41 ?_;apply b06 14;apply b0b (by kernel_rfl);apply k7 _;apply n6 _;exact b0t [2,4,6] [0,1,2,3,4]
   ·apply (b35);apply zoc 4 (c1);apply zoc 9 (c2);refine b15 q7 true 12 41 ?_;apply b06 14;apply b0b (by kernel_rfl);apply k7 _;apply n6 _;exact b0t [2,4,6] [0,1,2,3,4]
  ·apply (zkm);have F:=fq2 hn1 hn2;apply yR [2,4,6,7];apply b4r (A:=Nat) (fun k=>⟨[(2,.pv [tQ n ss] 0 0),(4,.ptr 1 0 0),(6,.pv [.agg [.int .i64 lo,.int .i64 hi,.int .i64 y2]] 0 0),(7,.int .i64 (Nat.cast k))],[eQ,.box (.agg [.int .i64 0,.ref 0]) .mix],false,80,0⟩) (fun k=>k≤ss.length)
   ·intro _ n9 _ _;apply b0g;intros;apply b05 (fun k=>⟨[(2,.ptr 0 0 0),(4,.ptr 2 0 0),(6,.ptr 3 0 0),(7,.int .i64 (Nat.cast k))],[.box (tQ n ss) .shal,eQ,.box (.agg [.int .i64 0,.ref 1]) .mix,.box (.agg [.int .i64 lo,.int .i64 hi,.int .i64 y2]) .flat],false,80,0⟩) (fun k=>k≤ss.length) (fun k=>ss.length - k) 0
    ·apply b1a [2,4,6,7] [0,2,3,4];rfl
    ·exact qle _
    ·rintro k hok11 Q11 n11 e11 r11;have hk1:k≤ss.length:=hok11;rcases qmk k ss.length with hkl | hkl
     ·skip;obtain ⟨⟨x0,x1,x2⟩,hx⟩:∃x:TS,ss[k]? =some x:=⟨ss[k]'(by omega),qla (by omega)⟩;have hlt:decide ((k:Int) < (ss.length:Int))=true:=decide_eq_true (by omega);apply b0e;intros;apply b0e;intro _ n13 _ _;apply b1b (by kernel_rfl);intro _ q14 k14;show b13 _ _ _ _ 14 (Zb 14 false) _;have F:=fq4 hn1 hn2 (gdm hx) hlt;refine zdU q14 true 0 42 ?_;refine zdU q14 true 1 43 ?_;refine b00 q14 true 2 44 ?_;refine d6y q14 true 3 45 ?_;refine b2b q14 true 4 46 ?_;refine zdU q14 true 5 47 ?_;refine b1n q14 true 6 48 ?_;refine b66 q14 true 7 49 ?_;refine b1n q14 true 8 50 ?_;refine b0u q14 true 9 51 ?_;refine b66 q14 true 10 52 ?_;refine b66 q14 true 11 53 ?_;first
      |apply d3v 12 (b87 x0 x1 x2 lo hi y2)
      |(apply b2w 12 54 5 true rfl rfl (show 54 < 80 by decide) (by kernel_rfl) rfl;(focus first | rfl | (simp only [zV,b01,Nat.reduceEqDiff,reduceIte];done));simp only [zW,b0j,Nat.reduceEqDiff,reduceIte])
      refine b1s q14 true 13 55 ?_;apply b0b (by kernel_rfl);apply k14 _;apply n13 _ _ (b0a [2,4,6,7,55] _);apply (zk);apply b0c _ rfl
      ·intro hc1;apply zn [2,4,6,7];apply b0g;intros;apply (yV);apply n11 _ (k+1)
       ·apply b1a [2,4,6,7] [0,1,2,3];rfl
       ·exact hkl
       ·show _ < _;omega
      ·intro hc1;apply (zx);apply n9 k _
       ·exact hk1
       ·refine b0m (b0m (b58 2 0 _ rfl rfl) (c67 6 3 _ rfl rfl)) ?_;simp only [List.set_cons_succ,List.set_cons_zero]
        ·exact b0t [2,4,6,7] [1,2]
     ·skip;have hlt:decide ((k:Int) < (ss.length:Int))=false:=decide_eq_false (by omega);apply b0e;intros;apply b0e;intro _ n19 _ _;apply b1b (by kernel_rfl);intro _ q20 k20;show b13 _ _ _ _ 14 (Zb 14 false) _;have F:=fq3 hn1 hn2 hlt;refine zdU q20 true 0 42 ?_;refine zdU q20 true 1 43 ?_;refine b00 q20 true 2 44 ?_;refine d6y q20 true 3 45 ?_;refine b2b q20 true 4 46 ?_;refine zdU q20 true 5 47 ?_;refine b1n q20 true 6 48 ?_;refine b66 q20 true 7 49 ?_;refine b1n q20 true 8 50 ?_;refine b0u q20 true 9 51 ?_;refine b66 q20 true 10 52 ?_;refine b66 q20 true 11 53 ?_;first
      |apply d3v 12 (b87 x0 x1 x2 lo hi y2)
      |(apply b2w 12 54 5 true rfl rfl (show 54 < 80 by decide) (by kernel_rfl) rfl;(focus first | rfl | (simp only [zV,b01,Nat.reduceEqDiff,reduceIte];done));simp only [zW,b0j,Nat.reduceEqDiff,reduceIte])
      refine b1s q20 true 13 55 ?_;apply b0b (by kernel_rfl);apply k20 _;apply n19 _ _ (b0a [2,4,6,7,55] _);apply (zk);apply b2a _ rfl
      ·intro hc1;exfalso;simp at hc1
      ·intro hc1;try simp only [zC,reduceCtorEq] at hc1
       apply (zx);apply n9 k _
       ·exact hk1
       ·refine b0m (b0m (b58 2 0 _ rfl rfl) (c67 6 3 _ rfl rfl)) ?_;simp only [List.set_cons_succ,List.set_cons_zero]
        ·exact b0t [2,4,6,7] [1,2]
   ·rintro k hok9;have hk1:k≤ss.length:=hok9;skip
    ·skip;have htk2:(ss.take k).length=k:=by rw [qlj];omega
     have hdk2:(ss.drop k).length=ss.length - k:=qmj;have hca0:∀y∈(ss.take k).map rQd++[V.agg [V.int .i64 lo,V.int .i64 hi,V.int .i64 y2]],y.cells.length=3:=by
      intro y hy;rcases qll.1 hy with h | h
      ·obtain ⟨_,_,rfl⟩:=qmd.1 h;rfl
      ·rw [qlm] at h;subst h;rfl
     simp only [V.cells] at hca0;have hca:=eq_true hca0;apply f3j
     ·intro _ n22 _ _;apply b1b (by kernel_rfl);intro _ q23 k23;show b13 _ _ _ _ 19 (Zb 19 false) _;have F:=fq5 hn1 hn2 htk2 hdk2 hca;refine zdU q23 false 0 58 ?_;refine b00 q23 false 1 59 ?_;refine zdU q23 true 3 61 ?_;refine b00 q23 true 4 62 ?_;refine zdU q23 true 5 63 ?_;refine b6s q23 true 6 64 ?_;refine b00 q23 false 8 66 ?_;refine zdU q23 false 11 69 ?_;refine b00 q23 false 12 70 ?_;refine zdU q23 false 13 71 ?_;refine b6s q23 false 14 72 ?_;apply b5m 2 9 17 rfl rfl rfl (by kernel_rfl)
      ·apply (b03);apply b5m 7 9 17 rfl rfl rfl (by kernel_rfl)
       ·apply (b2f);apply b1e 9 17 rfl rfl (by kernel_rfl)
        ·apply (b03);apply b1e 10 17 rfl rfl (by kernel_rfl)
         ·apply (b2f);apply b1e 15 17 rfl rfl (by kernel_rfl)
          ·apply (b2f);refine b15 q23 true 16 74 ?_;apply c33 17;apply b06 18;apply b0b (by kernel_rfl);apply k23 _;apply n22 _;exact d3h [4,8] [0,1,2,3,4,5,6,7,8]
          ·apply (b35);apply b0l 15;refine b15 q23 true 16 74 ?_;apply b06 18;apply b0b (by kernel_rfl);apply k23 _;apply n22 _;exact b0t [4,8] [0,1,2,3,4,5,8,6,7]
         ·apply (b35);apply b0l 10;apply b0l 15;refine b15 q23 true 16 74 ?_;apply b06 18;apply b0b (by kernel_rfl);apply k23 _;apply n22 _;exact b0t [4,8] [0,1,2,3,4,7,8,5,6]
        ·apply (b35);apply b1j 9;apply b0l 10;apply b0l 15;refine b15 q23 true 16 74 ?_;apply b06 18;apply b0b (by kernel_rfl);apply k23 _;apply n22 _;exact b0t [4,8] [0,1,2,3,6,7,8,4,5]
       ·apply (b03);apply b1e 7 17 rfl rfl (by kernel_rfl)
        ·apply (b2f);apply b1e 10 17 rfl rfl (by kernel_rfl)
         ·apply (b2f);apply b1e 15 17 rfl rfl (by kernel_rfl)
          ·apply (b2f);refine b15 q23 true 16 74 ?_;apply c33 17;apply b06 18;apply b0b (by kernel_rfl);apply k23 _;apply n22 _;exact b0t [4,8] [0,1,2,4,3,5,6,7,8]
          ·apply (b35);apply b0l 15;refine b15 q23 true 16 74 ?_;apply b06 18;apply b0b (by kernel_rfl);apply k23 _;apply n22 _;exact b0t [4,8] [0,1,2,4,3,5,8,6,7]
         ·apply (b35);apply b0l 10;apply b0l 15;refine b15 q23 true 16 74 ?_;apply b06 18;apply b0b (by kernel_rfl);apply k23 _;apply n22 _;exact b0t [4,8] [0,1,2,4,3,7,8,5,6]
        ·apply (b35);apply b0l 7;apply b0l 10;apply b0l 15;refine b15 q23 true 16 74 ?_;apply b06 18;apply b0b (by kernel_rfl);apply k23 _;apply n22 _;exact b0t [4,8] [0,1,2,6,3,7,8,4,5]
       ·apply (b35);apply b1e 7 9 rfl rfl (by kernel_rfl)
        ·apply (b2f);apply b1j 9;apply b0l 10;apply b0l 15;refine b15 q23 true 16 74 ?_;apply b06 18;apply b0b (by kernel_rfl);apply k23 _;apply n22 _;exact b0t [4,8] [0,1,2,5,6,7,8,3,4]
        ·apply (b03);apply b0l 7;apply b0l 10;apply b0l 15;refine b15 q23 true 16 74 ?_;apply b06 18;apply b0b (by kernel_rfl);apply k23 _;apply n22 _;exact b0t [4,8] [0,1,2,6,5,7,8,3,4]
      ·apply (b03);apply b1e 2 17 rfl rfl (by kernel_rfl)
       ·apply (b03);apply b1e 7 17 rfl rfl (by kernel_rfl)
        ·apply (b2f);apply b1e 10 17 rfl rfl (by kernel_rfl)
         ·apply (b2f);apply b1e 15 17 rfl rfl (by kernel_rfl)
          ·apply (b2f);refine b15 q23 true 16 74 ?_;apply c33 17;apply b06 18;apply b0b (by kernel_rfl);apply k23 _;apply n22 _;exact b0t [4,8] [0,1,3,4,2,5,6,7,8]
          ·apply (b35);apply b0l 15;refine b15 q23 true 16 74 ?_;apply b06 18;apply b0b (by kernel_rfl);apply k23 _;apply n22 _;exact b0t [4,8] [0,1,3,4,2,5,8,6,7]
         ·apply (b35);apply b0l 10;apply b0l 15;refine b15 q23 true 16 74 ?_;apply b06 18;apply b0b (by kernel_rfl);apply k23 _;apply n22 _;exact b0t [4,8] [0,1,3,4,2,7,8,5,6]
        ·apply (b35);apply b0l 7;apply b0l 10;apply b0l 15;refine b15 q23 true 16 74 ?_;apply b06 18;apply b0b (by kernel_rfl);apply k23 _;apply n22 _;exact b0t [4,8] [0,1,3,6,2,7,8,4,5]
       ·apply (b35);apply b1j 2;apply b0l 7;apply b0l 10;apply b0l 15;refine b15 q23 true 16 74 ?_;apply b06 18;apply b0b (by kernel_rfl);apply k23 _;apply n22 _;exact b0t [4,8] [0,1,5,6,2,7,8,3,4]
      ·apply (b35);apply b1e 2 9 rfl rfl (by kernel_rfl)
       ·apply (b03);apply b1e 7 9 rfl rfl (by kernel_rfl)
        ·apply (b2f);apply b1j 9;apply b0l 10;apply b0l 15;refine b15 q23 true 16 74 ?_;apply b06 18;apply b0b (by kernel_rfl);apply k23 _;apply n22 _;exact b0t [4,8] [0,1,4,5,6,7,8,2,3]
        ·apply (b03);apply b0l 7;apply b0l 10;apply b0l 15;refine b15 q23 true 16 74 ?_;apply b06 18;apply b0b (by kernel_rfl);apply k23 _;apply n22 _;exact b0t [4,8] [0,1,4,6,5,7,8,2,3]
       ·apply (b03);apply b1j 2;apply b0l 7;apply b0l 10;apply b0l 15;refine b15 q23 true 16 74 ?_;apply b06 18;apply b0b (by kernel_rfl);apply k23 _;apply n22 _;exact b0t [4,8] [0,1,5,6,4,7,8,2,3]
     ·apply (zkm);apply b0e;intros;have F:=fq5 hn1 hn2 htk2 hdk2 hca;apply yRc [4,8,77] (c2q n (ss.take k++[(lo,hi,y2)]++ss.drop k) (by simp;omega));apply b0c _ rfl
      ·intro hc2;apply yR [4,5];apply (zq3);refine b1g ?_;exact ⟨[],false,qle _,rfl,rfl⟩
      ·intro hc2;apply zn [4,8];apply yR [4,5];apply (zq3);refine b1g ?_;exact ⟨(ss.take k++[(lo,hi,y2)]++ss.drop k),true,by simp;omega,rfl,by simp only [aQ,fQ,List.map_append,List.map_cons,Zg];try rfl⟩
end Go.Proofs.YtmbbjhopngejaaaGreat
