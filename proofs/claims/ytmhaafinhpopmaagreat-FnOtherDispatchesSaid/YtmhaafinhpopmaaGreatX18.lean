/- What functions compute. No condition. -/
import Derived.Test.YtmhaafinhpopmaaGreatX17
import Derived.Test.YtmhaafinhpopmaaGreatX3
import Derived.Test.YtmhaafinhpopmaaGreatX4
set_option linter.unusedSimpArgs false
set_option linter.unusedVariables false
set_option linter.defProp false
namespace Go.Proofs.YtmhaafinhpopmaaGreat
open Go Go.Vm
set_option maxHeartbeats 8000000
theorem weak_freezeS {m:Nat} {s:St} (t i:Nat) (cs:List V) (ht:s.get t=.ptr i 0 0) (hO:s.O[i]? =some (.box (.agg cs) .shal)):Weak m s {s with env:=(t,.pv [.agg cs] 0 0)::s.env,O:=s.O.set i .dead}:=by
  intro cx a w μ ow hmu h;have hli:i < s.O.length:=(qlc.1 hO).1;refine ⟨μ,dropOw ow i,h.dfr,h.sz,fun t2=> ?_,fun j bk e=> ?_,fun j hj=>h.dom j (by rwa [qln] at hj),fun b hb=>h.owl b (dropOw_ne hb),fun b hb=>h.own b (dropOw_ne hb),h.frm,h.mu⟩
  · obtain ⟨bl,r1,r2⟩:=h.env t2
    show ∃bl,Rep w μ (Vm.look t2 ((t,V.pv [.agg cs] 0 0)::s.env)) _ bl∧_;rw [look_cons]
    by_cases q:t2=t
    · subst q
      rw [if_pos rfl];rw [ht] at r1;have hrow:RowOK cx w μ ow s.vw i [.agg cs] .shal:=h.blk i _ hO;obtain ⟨l,h1,h2,h3⟩:=hrow;generalize a.tmps.getD t2 undef=x at r1⊢;cases r1 with
      | ptr _ _ _ l' hl hi=>
        rw [hl] at h1;obtain rfl:=Option.some.inj h1;rcases h3 with ⟨_,h3⟩ | ⟨h3,h4,bl,h5,h6,h7⟩
        · cases h3
        · obtain ⟨vs,c1,c2,c3⟩:=h5.rowOf
          have hcl:=h5.each _ (qle ..);have c1':RepL w M0 cs vs bl:=by
            have q9:RepL w (Kd.shal.mu μ) cs vs bl:=by simpa [V.cells] using c1
            exact q9
          have hpv:=Rep.pv (w:=w) (μ:=μ) [.agg cs] 0 0 l'.b l'.off l'.sz vs bl (by simp) h5.sz (by
            intro y hy;simp at hy;subst hy;exact hcl) (by simpa [V.cells] using c1') c2 c3
          refine ⟨_,hpv,fun b hb=> ?_⟩;rcases ql0.1 hb with e | e
          · subst e
            exact ⟨.inl (dropOw_in h4),.inr (h.own _ (by rw [h4];simp))⟩
          · exact vok_drop i (h6 b e)
    · rw [if_neg q]
      exact ⟨bl,r1,fun b hb=>vok_drop i (r2 b hb)⟩
  · have e2:(s.O.set i .dead)[j]? =some bk:=e
    by_cases q:j=i
    · subst q
      rw [qlj hli] at e2;simp only [Option.some.injEq] at e2;subst e2;trivial
    · rw [qlq (fun z=>q z.symm)] at e2
      have:=h.blk j bk e2;cases bk with
      | dead=>trivial
      | arr ys k2=>exact row_drop q this
      | box y k2=>exact row_drop q this
      | hid j n=>exact this
theorem weak_freezeF {m:Nat} {s:St} (t i:Nat) (cs:List V) (ht:s.get t=.ptr i 0 0) (hO:s.O[i]? =some (.box (.agg cs) .flat)):Weak m s {s with env:=(t,.pv [.agg cs] 0 0)::s.env,O:=s.O.set i .dead}:=by
  intro cx a w μ ow hmu h;have hli:i < s.O.length:=(qlc.1 hO).1;refine ⟨μ,dropOw ow i,h.dfr,h.sz,fun t2=> ?_,fun j bk e=> ?_,fun j hj=>h.dom j (by rwa [qln] at hj),fun b hb=>h.owl b (dropOw_ne hb),fun b hb=>h.own b (dropOw_ne hb),h.frm,h.mu⟩
  · obtain ⟨bl,r1,r2⟩:=h.env t2
    show ∃bl,Rep w μ (Vm.look t2 ((t,V.pv [.agg cs] 0 0)::s.env)) _ bl∧_;rw [look_cons]
    by_cases q:t2=t
    · subst q
      rw [if_pos rfl];rw [ht] at r1;have hrow:RowOK cx w μ ow s.vw i [.agg cs] .flat:=h.blk i _ hO;obtain ⟨l,h1,h2,h3⟩:=hrow;generalize a.tmps.getD t2 undef=x at r1⊢;cases r1 with
      | ptr _ _ _ l' hl hi=>
        rw [hl] at h1;obtain rfl:=Option.some.inj h1;rcases h3 with ⟨_,h3⟩ | ⟨h3,h4,bl,h5,h6,h7⟩
        · cases h3
        · have hb0:bl=[]:=h6
          subst hb0;obtain ⟨vs,c1,c2,c3⟩:=h5.rowOf;have hcl:=h5.each _ (qle ..);have c1':RepL w M0 cs vs []:=by
            have q9:RepL w (Kd.flat.mu μ) cs vs []:=by simpa [V.cells] using c1
            exact q9
          have hpv:=Rep.pv (w:=w) (μ:=μ) [.agg cs] 0 0 l'.b l'.off l'.sz vs [] (by simp) h5.sz (by
            intro y hy;simp at hy;subst hy;exact hcl) (by simpa [V.cells] using c1') c2 c3
          refine ⟨_,hpv,fun b hb=> ?_⟩;rw [qli] at hb;subst hb;exact ⟨.inl (dropOw_in h4),.inr (h.own _ (by rw [h4];simp))⟩
    · rw [if_neg q]
      exact ⟨bl,r1,fun b hb=>vok_drop i (r2 b hb)⟩
  · have e2:(s.O.set i .dead)[j]? =some bk:=e
    by_cases q:j=i
    · subst q
      rw [qlj hli] at e2;simp only [Option.some.injEq] at e2;subst e2;trivial
    · rw [qlq (fun z=>q z.symm)] at e2
      have:=h.blk j bk e2;cases bk with
      | dead=>trivial
      | arr ys k2=>exact row_drop q this
      | box y k2=>exact row_drop q this
      | hid j n=>exact this
set_option maxRecDepth 8000 in
theorem toFind_con (n:Int) (ss:List TS) (a b:Int) (hs:ss.length≤1048576):Con Tryz.prog 94 [.agg [.int .i64 n,.sl (ss.map (fun t:TS=>V.agg [V.int .i64 t.1,V.int .i64 t.2.1,V.int .i64 t.2.2]))],.int .i64 a,.int .i64 b] [] (.int .i64 (firstP (fun x:TS=>decide (x.1=(if b < a then b else a)) && decide (x.2.1=(if b > a then b else a))) 0 ss)) []:=by
 obtain ⟨lo,hlo⟩:∃lo,lo=if b < a then b else a:=⟨_,rfl⟩;obtain ⟨hi,hhi⟩:∃hi,hi=if b > a then b else a:=⟨_,rfl⟩;have c1:=l1Least_con a b;have c2:=l1Most_con a b;rw [←hlo] at c1;rw [←hhi] at c2;simp only [←hlo,←hhi];refine v_con [.tmp 6] [] Tryz.func94 rfl rfl rfl (by simp [Tryz.ntmps94]) ?_;intro Q0 n0 r0;simp only [Tryz.ntmps94,envFrom,Nat.reduceAdd];have T:=Tys.mk (ai Ty.t3 (ai Ty.t24 (ai Ty.t26 Ty.t98)));have F:=Fc.mk True.intro;refine yR [1,2,3] ⟨?_⟩;refine v_seq ?_;intro Q2 n2 e2 r2;refine yR [1,2,10,11,12] ⟨?_⟩;refine v_block ?_;intros;refine v_loop (fun i=>⟨[(1,.int .i64 a),(2,.int .i64 b),(10,.sl (ss.map (fun t:TS=>V.agg [V.int .i64 t.1,V.int .i64 t.2.1,V.int .i64 t.2.2]))),(11,.int .i64 ss.length),(12,.int .i64 (Nat.cast i))],[],false,33,0⟩) (fun i=>i≤ss.length∧firstP (fun x:TS=>decide (x.1=lo) && decide (x.2.1=hi)) i (ss.drop i)=firstP (fun x:TS=>decide (x.1=lo) && decide (x.2.1=hi)) 0 ss) (fun i=>ss.length - i) 0 ?_ ?_ ?_
 ·refine weak_bothS [1,2,10,11,12] [] ⟨?_⟩;rfl
 ·exact ⟨qlk _,rfl⟩
 ·rintro i hok5 Q5 n5 e5 r5;obtain ⟨hi1,hR⟩:=hok5;refine yR [1,2,10,11,12,13] ⟨?_⟩;refine v_seq ?_;intros;refine v_condS _ rfl ?_ ?_
  ·intro hc0;have hlt:i < ss.length:=by omega
   obtain ⟨⟨x0,x1,x2⟩,hx⟩:∃x:TS,ss[i]? =some x:=⟨ss[i]'(by omega),qla (by omega)⟩;have hst:=first_step (p:=(fun x:TS=>decide (x.1=lo) && decide (x.2.1=hi))) hx;refine zn [1,2,10,11,12] ⟨?_⟩;refine v_seq ?_;intros;refine v_block ?_;intros;have F:=Fc.mk (gdm hx);refine yR [1,2,7,8,10,11,12] ⟨?_⟩;refine v_seq ?_;intro Q12 n12 e12 r12;refine v_draw (by kernel_rfl) ?_;intro K13 q13 k13;show aAny _ _ _ _ 14 (Array.replicate 14 false) _;refine zdFieldAddr q13 true 0 17 ?_;refine zdLoad q13 true 1 18 ?_;refine zdMove q13 true 2 19 ?_;refine zdMove q13 true 3 20 ?_;refine zoc 4 (c1) ⟨?_⟩;refine zdBinOp q13 true 5 22 ?_;refine zdMove q13 true 6 23 ?_;refine zdgFieldAddr q13 true 7 24 ?_;refine zdgLoad q13 true 8 25 ?_;refine zdgMove q13 true 9 26 ?_;refine zdgMove q13 true 10 27 ?_;first
   |refine zogc 11 (c2) ⟨?_⟩
   |(refine aAny_pass 11 28 6 true rfl rfl (show 28 < 33 by decide) (by kernel_rfl) rfl ?_ ?_;(focus first | rfl | (simp only [zV,guardV,Nat.reduceEqDiff,reduceIte];done));simp only [zW,set_some,Nat.reduceEqDiff,reduceIte])
   refine zdgBinOp q13 true 12 29 ?_;refine zdPick q13 true 13 30 ?_;refine aAny_done (by kernel_rfl) ?_;refine k13 _ ?_;refine n12 _ _ (weak_keep [1,2,7,10,11,12,30] _) ?_;refine zk ⟨?_⟩;refine v_condS _ rfl ?_ ?_
   ·intro hc1;have hq:(fun x:TS=>decide (x.1=lo) && decide (x.2.1=hi)) (x0,x1,x2)=true:=by
     by_cases e1:x0=lo<;>by_cases e2:x1=hi<;>simp [e1,e2] at hc1⊢
    refine yR [6] ⟨?_⟩;refine zr ⟨?_⟩;exact ret_pure rfl (by rw [←hR,hst,if_pos hq]) (.inl rfl)
   ·intro hc1;have hq:(fun x:TS=>decide (x.1=lo) && decide (x.2.1=hi)) (x0,x1,x2)=false:=by
     by_cases e1:x0=lo<;>by_cases e2:x1=hi<;>simp [e1,e2] at hc1⊢
    refine zn [1,2,10,11,12] ⟨?_⟩;refine yV ⟨?_⟩;refine n5 _ (i+1) ?_ ?_ ?_
    ·refine weak_bothS [1,2,10,11,12] [] ⟨?_⟩;rfl
    ·exact ⟨hlt,by rw [←hR,hst,if_neg (ne_true_of_eq_false hq)]⟩
    ·show _ < _;omega
  ·intro hc0;refine zn [] ⟨?_⟩;refine yR [6] ⟨?_⟩;refine zr ⟨?_⟩;exact ret_pure rfl (by rw [←hR,first_end (by omega)]) (.inl rfl)
set_option maxRecDepth 8000 in
theorem addStreet_con (n:Int) (ss:List TS) (y0 y1 y2:Int) (hs:ss.length≤1000000):ConX Tryz.prog 82 [.agg [.int .i64 n,.sl (ss.map (fun t:TS=>V.agg [V.int .i64 t.1,V.int .i64 t.2.1,V.int .i64 t.2.2]))],.agg [.int .i64 y0,.int .i64 y1,.int .i64 y2]] [] (fun r O'=>∃(l:List TS) (b:Bool),(l.length≤ss.length+1)∧r=.tup [.agg [.int .i64 (bif b then n else 0),.ref 0],.bool b]∧O'=[.arr (l.map (fun t:TS=>V.agg [V.int .i64 t.1,V.int .i64 t.2.1,V.int .i64 t.2.2])) .flat]):=by
 obtain ⟨lo,hlo⟩:∃lo,lo=if y1 < y0 then y1 else y0:=⟨_,rfl⟩;obtain ⟨hi,hhi⟩:∃hi,hi=if y1 > y0 then y1 else y0:=⟨_,rfl⟩;have c1:=l1Least_con y0 y1;have c2:=l1Most_con y0 y1;rw [←hlo] at c1;rw [←hhi] at c2;have hn1:∀m:Nat,((ss.take m).map (fun t:TS=>V.agg [V.int .i64 t.1,V.int .i64 t.2.1,V.int .i64 t.2.2])).all V.noSl=true:=fun m=>by rw [List.all_map,qlh];intro a _;rfl
 have hn2:∀m:Nat,((ss.drop m).map (fun t:TS=>V.agg [V.int .i64 t.1,V.int .i64 t.2.1,V.int .i64 t.2.2])).all V.noSl=true:=fun m=>by rw [List.all_map,qlh];intro a _;rfl
 have hyl:Int.natAbs y2=Int.natAbs y2:=rfl;refine v_conX [.cell 4 26,.tmp 5] [] Tryz.func82 rfl rfl rfl (by simp [Tryz.ntmps82]) ?_;intro Q0 n0 r0;simp only [Tryz.ntmps82,envFrom,Nat.reduceAdd];have T:=Tys.mk (ai Ty.t3 (ai Ty.t4 (ai Ty.t24 (ai Ty.t26 Ty.t98))));have F:=Fc.mk True.intro;have F:=Fc.mk (ai hn1 hn2);refine yR [2,3,4] ⟨?_⟩;refine v_seq ?_;intros;refine yRcgg [2,3,4,27] (toGood_con n ss (by omega)) (toStreetB_con y0 y1 y2 n) (toFind_con n ss y0 y1 (by omega)) ⟨?_⟩;refine v_condS _ rfl ?_ ?_
 ·intro hc0;refine yR [4,5] ⟨?_⟩;refine zq3 ⟨?_⟩;refine ret_viewX ?_;exact ⟨[],false,qlk _,rfl,rfl⟩
 ·intro hc0;refine zn [2,3,4] ⟨?_⟩;apply v_seq1
  ·intro Q6 n6 e6 r6;refine v_draw (by kernel_rfl) ?_;intro K7 q7 k7;show aAny _ _ _ _ 15 (Array.replicate 15 false) _;refine zdFieldAddr q7 true 0 29 ?_;refine zdLoadX q7 true 1 30 ?_;refine zdFieldAddr q7 true 2 31 ?_;refine zdLoadX q7 true 3 32 ?_;refine zdFieldAddr q7 true 5 34 ?_;refine zdLoadX q7 true 6 35 ?_;refine zdFieldAddr q7 true 7 36 ?_;refine zdLoadX q7 true 8 37 ?_;refine zdFieldAddr q7 true 10 39 ?_;refine zdLoadX q7 true 11 40 ?_;refine aAny_two 4 13 rfl rfl (by kernel_rfl) ?_ ?_
   ·refine zsc (c1) ⟨?_⟩;refine aAny_two 9 13 rfl rfl (by kernel_rfl) ?_ ?_
    ·refine zsc (c2) ⟨?_⟩;refine zdBuild q7 true 12 41 ?_;refine zoAlloc 13 ⟨?_⟩;refine zoStore 14 ⟨?_⟩;refine aAny_done (by kernel_rfl) ?_;refine k7 _ ?_;refine n6 _ ?_;exact weak_one [2,4,6] [0,1,2,3,4]
    ·refine zsAlloc ⟨?_⟩;refine zoc 9 (c2) ⟨?_⟩;refine zdBuild q7 true 12 41 ?_;refine zoStore 14 ⟨?_⟩;refine aAny_done (by kernel_rfl) ?_;refine k7 _ ?_;refine n6 _ ?_;exact weak_same [2,4,6] [0,1,2,3,4]
   ·refine zsAlloc ⟨?_⟩;refine zoc 4 (c1) ⟨?_⟩;refine zoc 9 (c2) ⟨?_⟩;refine zdBuild q7 true 12 41 ?_;refine zoStore 14 ⟨?_⟩;refine aAny_done (by kernel_rfl) ?_;refine k7 _ ?_;refine n6 _ ?_;exact weak_same [2,4,6] [0,1,2,3,4]
  ·refine zkm ⟨?_⟩;have F:=Fc.mk (ai hn1 hn2);refine yR [2,4,6,7] ⟨?_⟩;refine v_join (A:=Nat) (fun k=>⟨[(2,.pv [.agg [.int .i64 n,.sl (ss.map (fun t:TS=>V.agg [V.int .i64 t.1,V.int .i64 t.2.1,V.int .i64 t.2.2]))]] 0 0),(4,.ptr 1 0 0),(6,.pv [.agg [.int .i64 lo,.int .i64 hi,.int .i64 y2]] 0 0),(7,.int .i64 (Nat.cast k))],[.arr [] .flat,.box (.agg [.int .i64 0,.ref 0]) .mix],false,80,0⟩) (fun k=>k≤ss.length) ?_ ?_
   ·intro Q9 n9 e9 r9;refine v_block ?_;intros;refine v_loop (fun k=>⟨[(2,.ptr 0 0 0),(4,.ptr 2 0 0),(6,.ptr 3 0 0),(7,.int .i64 (Nat.cast k))],[.box (.agg [.int .i64 n,.sl (ss.map (fun t:TS=>V.agg [V.int .i64 t.1,V.int .i64 t.2.1,V.int .i64 t.2.2]))]) .shal,.arr [] .flat,.box (.agg [.int .i64 0,.ref 1]) .mix,.box (.agg [.int .i64 lo,.int .i64 hi,.int .i64 y2]) .flat],false,80,0⟩) (fun k=>k≤ss.length) (fun k=>ss.length - k) 0 ?_ ?_ ?_
    ·refine weak_bothN [2,4,6,7] [0,2,3,4] ⟨?_⟩;rfl
    ·exact qlk _
    ·rintro k hok11 Q11 n11 e11 r11;have hk1:k≤ss.length:=hok11;rcases qly k ss.length with hkl | hkl
     ·skip;obtain ⟨⟨x0,x1,x2⟩,hx⟩:∃x:TS,ss[k]? =some x:=⟨ss[k]'(by omega),qla (by omega)⟩;have hlt:decide ((k:Int) < (ss.length:Int))=true:=decide_eq_true (by omega);refine v_seq ?_;intros;refine v_seq ?_;intro Q13 n13 e13 r13;refine v_draw (by kernel_rfl) ?_;intro K14 q14 k14;show aAny _ _ _ _ 14 (Array.replicate 14 false) _;have F:=Fc.mk (ai hn1 (ai hn2 (ai (gdm hx) hlt)));refine zdMove q14 true 0 42 ?_;refine zdFieldAddr q14 true 1 43 ?_;refine zdLoadX q14 true 2 44 ?_;refine zdLen q14 true 3 45 ?_;refine zdBinOp q14 true 4 46 ?_;refine zdMove q14 true 5 47 ?_;refine zdgFieldAddr q14 true 6 48 ?_;refine zdgLoadX q14 true 7 49 ?_;refine zdgMove q14 true 8 50 ?_;refine zdgIndexAddr q14 true 9 51 ?_;refine zdgLoadX q14 true 10 52 ?_;refine zdgLoadX q14 true 11 53 ?_;first
      |refine zogc 12 (toBefore_con x0 x1 x2 lo hi y2) ⟨?_⟩
      |(refine aAny_pass 12 54 5 true rfl rfl (show 54 < 80 by decide) (by kernel_rfl) rfl ?_ ?_;(focus first | rfl | (simp only [zV,guardV,Nat.reduceEqDiff,reduceIte];done));simp only [zW,set_some,Nat.reduceEqDiff,reduceIte])
      refine zdPick q14 true 13 55 ?_;refine aAny_done (by kernel_rfl) ?_;refine k14 _ ?_;refine n13 _ _ (weak_keep [2,4,6,7,55] _) ?_;refine zk ⟨?_⟩;refine v_condS _ rfl ?_ ?_
      ·intro hc1;refine zn [2,4,6,7] ⟨?_⟩;refine v_block ?_;intros;refine yV ⟨?_⟩;refine n11 _ (k+1) ?_ ?_ ?_
       ·refine weak_bothN [2,4,6,7] [0,1,2,3] ⟨?_⟩;rfl
       ·exact hkl
       ·show _ < _;omega
      ·intro hc1;refine zx ⟨?_⟩;refine n9 k _ ?_ ?_
       ·exact hk1
       ·refine weak_trans (weak_trans (weak_freezeS 2 0 _ rfl rfl) (weak_freezeF 6 3 _ rfl rfl)) ?_;simp only [List.set_cons_succ,List.set_cons_zero]
        ·exact weak_same [2,4,6,7] [1,2]
     ·skip;have hlt:decide ((k:Int) < (ss.length:Int))=false:=decide_eq_false (by omega);refine v_seq ?_;intros;refine v_seq ?_;intro Q19 n19 e19 r19;refine v_draw (by kernel_rfl) ?_;intro K20 q20 k20;show aAny _ _ _ _ 14 (Array.replicate 14 false) _;have F:=Fc.mk (ai hn1 (ai hn2 hlt));refine zdMove q20 true 0 42 ?_;refine zdFieldAddr q20 true 1 43 ?_;refine zdLoadX q20 true 2 44 ?_;refine zdLen q20 true 3 45 ?_;refine zdBinOp q20 true 4 46 ?_;refine zdMove q20 true 5 47 ?_;refine zdgFieldAddr q20 true 6 48 ?_;refine zdgLoadX q20 true 7 49 ?_;refine zdgMove q20 true 8 50 ?_;refine zdgIndexAddr q20 true 9 51 ?_;refine zdgLoadX q20 true 10 52 ?_;refine zdgLoadX q20 true 11 53 ?_;first
      |refine zogc 12 (toBefore_con x0 x1 x2 lo hi y2) ⟨?_⟩
      |(refine aAny_pass 12 54 5 true rfl rfl (show 54 < 80 by decide) (by kernel_rfl) rfl ?_ ?_;(focus first | rfl | (simp only [zV,guardV,Nat.reduceEqDiff,reduceIte];done));simp only [zW,set_some,Nat.reduceEqDiff,reduceIte])
      refine zdPick q20 true 13 55 ?_;refine aAny_done (by kernel_rfl) ?_;refine k20 _ ?_;refine n19 _ _ (weak_keep [2,4,6,7,55] _) ?_;refine zk ⟨?_⟩;refine v_cond _ rfl ?_ ?_
      ·intro hc1;exfalso;simp at hc1
      ·intro hc1;try simp only [zC,reduceCtorEq] at hc1
       refine zx ⟨?_⟩;refine n9 k _ ?_ ?_
       ·exact hk1
       ·refine weak_trans (weak_trans (weak_freezeS 2 0 _ rfl rfl) (weak_freezeF 6 3 _ rfl rfl)) ?_;simp only [List.set_cons_succ,List.set_cons_zero]
        ·exact weak_same [2,4,6,7] [1,2]
   ·rintro k hok9;have hk1:k≤ss.length:=hok9;skip
    ·skip;have htk2:(ss.take k).length=k:=by rw [qls];omega
     have hdk2:(ss.drop k).length=ss.length - k:=qmh;have hca0:∀y∈(ss.take k).map (fun t:TS=>V.agg [V.int .i64 t.1,V.int .i64 t.2.1,V.int .i64 t.2.2])++[V.agg [V.int .i64 lo,V.int .i64 hi,V.int .i64 y2]],y.cells.length=3:=by
      intro y hy;rcases qll.1 hy with h | h
      ·obtain ⟨_,_,rfl⟩:=qma.1 h;rfl
      ·rw [qli] at h;subst h;rfl
     simp only [V.cells] at hca0;have hca:=eq_true hca0;apply v_seq1
     ·intro Q22 n22 e22 r22;refine v_draw (by kernel_rfl) ?_;intro K23 q23 k23;show aAny _ _ _ _ 19 (Array.replicate 19 false) _;have F:=Fc.mk (ai hn1 (ai hn2 (ai htk2 (ai hdk2 hca))));refine zdFieldAddr q23 false 0 58 ?_;refine zdLoadX q23 false 1 59 ?_;refine zdFieldAddr q23 true 3 61 ?_;refine zdLoadX q23 true 4 62 ?_;refine zdMove q23 true 5 63 ?_;refine zdSlice q23 true 6 64 ?_;refine zdLoadX q23 false 8 66 ?_;refine zdFieldAddr q23 false 11 69 ?_;refine zdLoadX q23 false 12 70 ?_;refine zdMove q23 false 13 71 ?_;refine zdSlice q23 false 14 72 ?_;refine aAny_three 2 9 17 rfl rfl rfl (by kernel_rfl) ?_ ?_ ?_
      ·refine zsBuildSlice ⟨?_⟩;refine aAny_three 7 9 17 rfl rfl rfl (by kernel_rfl) ?_ ?_ ?_
       ·refine zsAppend ⟨?_⟩;refine aAny_two 9 17 rfl rfl (by kernel_rfl) ?_ ?_
        ·refine zsBuildSlice ⟨?_⟩;refine aAny_two 10 17 rfl rfl (by kernel_rfl) ?_ ?_
         ·refine zsAppend ⟨?_⟩;refine aAny_two 15 17 rfl rfl (by kernel_rfl) ?_ ?_
          ·refine zsAppend ⟨?_⟩;refine zdBuild q23 true 16 74 ?_;refine zoAlloc 17 ⟨?_⟩;refine zoStore 18 ⟨?_⟩;refine aAny_done (by kernel_rfl) ?_;refine k23 _ ?_;refine n22 _ ?_;exact weak_one [4,8] [0,1,2,3,4,5,6,7,8]
          ·refine zsAlloc ⟨?_⟩;refine zoAppend 15 ⟨?_⟩;refine zdBuild q23 true 16 74 ?_;refine zoStore 18 ⟨?_⟩;refine aAny_done (by kernel_rfl) ?_;refine k23 _ ?_;refine n22 _ ?_;exact weak_same [4,8] [0,1,2,3,4,5,8,6,7]
         ·refine zsAlloc ⟨?_⟩;refine zoAppend 10 ⟨?_⟩;refine zoAppend 15 ⟨?_⟩;refine zdBuild q23 true 16 74 ?_;refine zoStore 18 ⟨?_⟩;refine aAny_done (by kernel_rfl) ?_;refine k23 _ ?_;refine n22 _ ?_;exact weak_same [4,8] [0,1,2,3,4,7,8,5,6]
        ·refine zsAlloc ⟨?_⟩;refine zoBuildSlice 9 ⟨?_⟩;refine zoAppend 10 ⟨?_⟩;refine zoAppend 15 ⟨?_⟩;refine zdBuild q23 true 16 74 ?_;refine zoStore 18 ⟨?_⟩;refine aAny_done (by kernel_rfl) ?_;refine k23 _ ?_;refine n22 _ ?_;exact weak_same [4,8] [0,1,2,3,6,7,8,4,5]
       ·refine zsBuildSlice ⟨?_⟩;refine aAny_two 7 17 rfl rfl (by kernel_rfl) ?_ ?_
        ·refine zsAppend ⟨?_⟩;refine aAny_two 10 17 rfl rfl (by kernel_rfl) ?_ ?_
         ·refine zsAppend ⟨?_⟩;refine aAny_two 15 17 rfl rfl (by kernel_rfl) ?_ ?_
          ·refine zsAppend ⟨?_⟩;refine zdBuild q23 true 16 74 ?_;refine zoAlloc 17 ⟨?_⟩;refine zoStore 18 ⟨?_⟩;refine aAny_done (by kernel_rfl) ?_;refine k23 _ ?_;refine n22 _ ?_;exact weak_same [4,8] [0,1,2,4,3,5,6,7,8]
          ·refine zsAlloc ⟨?_⟩;refine zoAppend 15 ⟨?_⟩;refine zdBuild q23 true 16 74 ?_;refine zoStore 18 ⟨?_⟩;refine aAny_done (by kernel_rfl) ?_;refine k23 _ ?_;refine n22 _ ?_;exact weak_same [4,8] [0,1,2,4,3,5,8,6,7]
         ·refine zsAlloc ⟨?_⟩;refine zoAppend 10 ⟨?_⟩;refine zoAppend 15 ⟨?_⟩;refine zdBuild q23 true 16 74 ?_;refine zoStore 18 ⟨?_⟩;refine aAny_done (by kernel_rfl) ?_;refine k23 _ ?_;refine n22 _ ?_;exact weak_same [4,8] [0,1,2,4,3,7,8,5,6]
        ·refine zsAlloc ⟨?_⟩;refine zoAppend 7 ⟨?_⟩;refine zoAppend 10 ⟨?_⟩;refine zoAppend 15 ⟨?_⟩;refine zdBuild q23 true 16 74 ?_;refine zoStore 18 ⟨?_⟩;refine aAny_done (by kernel_rfl) ?_;refine k23 _ ?_;refine n22 _ ?_;exact weak_same [4,8] [0,1,2,6,3,7,8,4,5]
       ·refine zsAlloc ⟨?_⟩;refine aAny_two 7 9 rfl rfl (by kernel_rfl) ?_ ?_
        ·refine zsAppend ⟨?_⟩;refine zoBuildSlice 9 ⟨?_⟩;refine zoAppend 10 ⟨?_⟩;refine zoAppend 15 ⟨?_⟩;refine zdBuild q23 true 16 74 ?_;refine zoStore 18 ⟨?_⟩;refine aAny_done (by kernel_rfl) ?_;refine k23 _ ?_;refine n22 _ ?_;exact weak_same [4,8] [0,1,2,5,6,7,8,3,4]
        ·refine zsBuildSlice ⟨?_⟩;refine zoAppend 7 ⟨?_⟩;refine zoAppend 10 ⟨?_⟩;refine zoAppend 15 ⟨?_⟩;refine zdBuild q23 true 16 74 ?_;refine zoStore 18 ⟨?_⟩;refine aAny_done (by kernel_rfl) ?_;refine k23 _ ?_;refine n22 _ ?_;exact weak_same [4,8] [0,1,2,6,5,7,8,3,4]
      ·refine zsBuildSlice ⟨?_⟩;refine aAny_two 2 17 rfl rfl (by kernel_rfl) ?_ ?_
       ·refine zsBuildSlice ⟨?_⟩;refine aAny_two 7 17 rfl rfl (by kernel_rfl) ?_ ?_
        ·refine zsAppend ⟨?_⟩;refine aAny_two 10 17 rfl rfl (by kernel_rfl) ?_ ?_
         ·refine zsAppend ⟨?_⟩;refine aAny_two 15 17 rfl rfl (by kernel_rfl) ?_ ?_
          ·refine zsAppend ⟨?_⟩;refine zdBuild q23 true 16 74 ?_;refine zoAlloc 17 ⟨?_⟩;refine zoStore 18 ⟨?_⟩;refine aAny_done (by kernel_rfl) ?_;refine k23 _ ?_;refine n22 _ ?_;exact weak_same [4,8] [0,1,3,4,2,5,6,7,8]
          ·refine zsAlloc ⟨?_⟩;refine zoAppend 15 ⟨?_⟩;refine zdBuild q23 true 16 74 ?_;refine zoStore 18 ⟨?_⟩;refine aAny_done (by kernel_rfl) ?_;refine k23 _ ?_;refine n22 _ ?_;exact weak_same [4,8] [0,1,3,4,2,5,8,6,7]
         ·refine zsAlloc ⟨?_⟩;refine zoAppend 10 ⟨?_⟩;refine zoAppend 15 ⟨?_⟩;refine zdBuild q23 true 16 74 ?_;refine zoStore 18 ⟨?_⟩;refine aAny_done (by kernel_rfl) ?_;refine k23 _ ?_;refine n22 _ ?_;exact weak_same [4,8] [0,1,3,4,2,7,8,5,6]
        ·refine zsAlloc ⟨?_⟩;refine zoAppend 7 ⟨?_⟩;refine zoAppend 10 ⟨?_⟩;refine zoAppend 15 ⟨?_⟩;refine zdBuild q23 true 16 74 ?_;refine zoStore 18 ⟨?_⟩;refine aAny_done (by kernel_rfl) ?_;refine k23 _ ?_;refine n22 _ ?_;exact weak_same [4,8] [0,1,3,6,2,7,8,4,5]
       ·refine zsAlloc ⟨?_⟩;refine zoBuildSlice 2 ⟨?_⟩;refine zoAppend 7 ⟨?_⟩;refine zoAppend 10 ⟨?_⟩;refine zoAppend 15 ⟨?_⟩;refine zdBuild q23 true 16 74 ?_;refine zoStore 18 ⟨?_⟩;refine aAny_done (by kernel_rfl) ?_;refine k23 _ ?_;refine n22 _ ?_;exact weak_same [4,8] [0,1,5,6,2,7,8,3,4]
      ·refine zsAlloc ⟨?_⟩;refine aAny_two 2 9 rfl rfl (by kernel_rfl) ?_ ?_
       ·refine zsBuildSlice ⟨?_⟩;refine aAny_two 7 9 rfl rfl (by kernel_rfl) ?_ ?_
        ·refine zsAppend ⟨?_⟩;refine zoBuildSlice 9 ⟨?_⟩;refine zoAppend 10 ⟨?_⟩;refine zoAppend 15 ⟨?_⟩;refine zdBuild q23 true 16 74 ?_;refine zoStore 18 ⟨?_⟩;refine aAny_done (by kernel_rfl) ?_;refine k23 _ ?_;refine n22 _ ?_;exact weak_same [4,8] [0,1,4,5,6,7,8,2,3]
        ·refine zsBuildSlice ⟨?_⟩;refine zoAppend 7 ⟨?_⟩;refine zoAppend 10 ⟨?_⟩;refine zoAppend 15 ⟨?_⟩;refine zdBuild q23 true 16 74 ?_;refine zoStore 18 ⟨?_⟩;refine aAny_done (by kernel_rfl) ?_;refine k23 _ ?_;refine n22 _ ?_;exact weak_same [4,8] [0,1,4,6,5,7,8,2,3]
       ·refine zsBuildSlice ⟨?_⟩;refine zoBuildSlice 2 ⟨?_⟩;refine zoAppend 7 ⟨?_⟩;refine zoAppend 10 ⟨?_⟩;refine zoAppend 15 ⟨?_⟩;refine zdBuild q23 true 16 74 ?_;refine zoStore 18 ⟨?_⟩;refine aAny_done (by kernel_rfl) ?_;refine k23 _ ?_;refine n22 _ ?_;exact weak_same [4,8] [0,1,5,6,4,7,8,2,3]
     ·refine zkm ⟨?_⟩;refine v_seq ?_;intros;have F:=Fc.mk (ai hn1 (ai hn2 (ai htk2 (ai hdk2 hca))));refine yRc [4,8,77] (toGood_con n (ss.take k++[(lo,hi,y2)]++ss.drop k) (by simp;omega)) ⟨?_⟩;refine v_condS _ rfl ?_ ?_
      ·intro hc2;refine yR [4,5] ⟨?_⟩;refine zq3 ⟨?_⟩;refine ret_viewX ?_;exact ⟨[],false,qlk _,rfl,rfl⟩
      ·intro hc2;refine zn [4,8] ⟨?_⟩;refine yR [4,5] ⟨?_⟩;refine zq3 ⟨?_⟩;refine ret_viewX ?_;exact ⟨(ss.take k++[(lo,hi,y2)]++ss.drop k),true,by simp;omega,rfl,by simp only [List.map_append,List.map_cons,List.map_nil];rfl⟩
end Go.Proofs.YtmhaafinhpopmaaGreat
