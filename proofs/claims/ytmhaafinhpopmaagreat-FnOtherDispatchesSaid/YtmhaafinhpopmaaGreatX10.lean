/- What functions compute. No condition. -/
import Derived.Test.YtmhaafinhpopmaaGreatX9
import Derived.Test.YtmhaafinhpopmaaGreatX7
set_option linter.unusedSimpArgs false
set_option linter.unusedVariables false
set_option linter.defProp false
namespace Go.Proofs.YtmhaafinhpopmaaGreat
open Go Go.Vm
set_option maxHeartbeats 8000000
def ltOf (c:Int→Int→Int) (x y:Int):Bool:=decide (c x y < 0)
theorem isort_one (lt:Int→Int→Bool) (l:List Int):isort lt (l.take 1)++l.drop 1=l:=by
  cases l with
  | nil=>rfl
  | cons x l=>rfl
set_option maxRecDepth 8000 in
theorem insSort_con (l:List Int) (g:Nat) (caps:List V) (c:Int→Int→Int) (hl:l.length≤1048576) (hc:Caps caps) (hg:∀{a b},a∈l→b∈l→Con Tryz.prog g (V.int .i64 a::V.int .i64 b::caps) [] (.int .i64 (c a b)) []):Con Tryz.prog 102 [.ref 0,.int .i64 0,.int .i64 l.length,.fn g caps] [.arr (l.map (V.int .i64)) .flat] (.tup []) [.arr ((isort (ltOf c) l).map (V.int .i64)) .flat]:=by
 refine v_con [] [] Tryz.func102 rfl rfl rfl (by simp [Tryz.ntmps102]) ?_;intro Q0 n0 r0;simp only [Tryz.ntmps102,envFrom,Nat.reduceAdd];have T:=Tys.mk (ai Ty.t3 Ty.t28);have F:=Fc.mk True.intro;refine yR [0,1,2,3,8] ⟨?_⟩;refine v_block ?_;intros;refine v_loop (fun i=>⟨[(0,.ref 0),(1,.int .i64 0),(2,.int .i64 l.length),(3,.fn g caps),(8,.int .i64 (Nat.cast i))],[.arr (((isort (ltOf c) (l.take i))++l.drop i).map (V.int .i64)) .flat],false,53,0⟩) (fun i=>1≤i) (fun i=>l.length - i) 1 ?_ ?_ ?_
 ·refine weak_bothC [0,1,2,3,8] [0] ⟨?_⟩;rw [isort_one];rfl
 ·exact qlu _
 ·rintro i hok3 Q3 n3 e3 r3;have hi1:1≤i:=hok3;refine v_seq ?_;intros;refine yR [0,1,2,3,8,14] ⟨?_⟩;refine v_condS _ rfl ?_ ?_
  ·intro hc0;have hlt:i < l.length:=by omega
   obtain ⟨x,hx⟩:∃x,l[i]? =some x:=⟨_,qla hlt⟩;have hpl:(isort (ltOf c) (l.take i)).length=i:=by rw [isort_len,qls];omega
   have hs0:(isort (ltOf c) (l.take i))++l.drop i=(insAt (isort (ltOf c) (l.take i)) x (l.drop (i+1)) i):=by rw [take_cons_drop hx,←insAt_start,hpl]
   have hxm:=qlb hx;refine zn [0,1,2,3,8] ⟨?_⟩;refine v_seq ?_;intros;refine v_block ?_;intros;refine yR [0,1,2,3,8,9] ⟨?_⟩;refine v_block ?_;intros;refine v_loop (fun j=>⟨[(0,.ref 0),(1,.int .i64 0),(2,.int .i64 l.length),(3,.fn g caps),(8,.int .i64 (Nat.cast i)),(9,.int .i64 (Nat.cast j))],[.arr ((insAt (isort (ltOf c) (l.take i)) x (l.drop (i+1)) j).map (V.int .i64)) .flat],false,53,0⟩) (fun j=>j≤i∧insPos (ltOf c) x (isort (ltOf c) (l.take i)) j=insPos (ltOf c) x (isort (ltOf c) (l.take i)) i) (fun j=>j) i ?_ ?_ ?_
   ·refine weak_bothC [0,1,2,3,8,9] [0] ⟨?_⟩;rw [hs0]
   ·exact ⟨qlu _,rfl⟩
   ·rintro j hok11 Q11 n11 e11 r11;obtain ⟨hj1,hR2⟩:=hok11;have hym:=hxm;rcases Nat.eq_zero_or_pos j with hj00 | hj00
    ·skip;have hj0:¬((0:Int) < (j:Int)):=by omega
     refine v_seq ?_;intros;refine v_seq ?_;intro Q13 n13 e13 r13;refine v_draw (by kernel_rfl) ?_;intro K14 q14 k14;show aAny _ _ _ _ 17 (Array.replicate 17 false) _;have F:=Fc.mk (ai hj0 (ai @decide_false @Bool.and_false));refine zdMove q14 true 0 18 ?_;refine zdMove q14 true 1 19 ?_;refine zdBinOp q14 true 2 20 ?_;refine zdMove q14 true 3 21 ?_;refine zdgMove q14 true 4 22 ?_;refine zdgMove q14 true 5 23 ?_;refine zdgMove q14 true 6 24 ?_;refine zdgIndexAddr q14 true 7 25 ?_;refine zdgLoad q14 true 8 26 ?_;refine zdgMove q14 true 9 27 ?_;refine zdgMove q14 true 10 28 ?_;refine zdgBinOpW q14 true 11 29 ?_;refine zdgIndexAddr q14 true 12 30 ?_;refine zdgLoad q14 true 13 31 ?_;first
     |refine zogcc 14 (hg hxm hym) ⟨?_⟩
     |(refine aAny_pass 14 32 3 true rfl rfl (show 32 < 53 by decide) (by kernel_rfl) rfl ?_ ?_;(focus first | rfl | (simp only [zV,guardV,Nat.reduceEqDiff,reduceIte];done));simp only [zW,set_some,Nat.reduceEqDiff,reduceIte])
     refine zdgBinOp q14 true 15 33 ?_;refine zdPick q14 true 16 34 ?_;refine aAny_done (by kernel_rfl) ?_;refine k14 _ ?_;refine n13 _ _ (weak_keep [0,1,2,3,8,9,34] _) ?_;refine zk ⟨?_⟩;refine v_cond _ rfl ?_ ?_
     ·intro hc1;exfalso;simp [hj0] at hc1
     ·intro hc1;try simp only [zC,reduceCtorEq] at hc1
      first
      |(have hend:(insAt (isort (ltOf c) (l.take i)) x (l.drop (i+1)) j)=isort (ltOf c) (l.take (i+1))++(l.drop (i+1)):=by rw [isort_step hx];exact insAt_end (by rw [hpl,←hR2,hj00];rfl))
      |(have hend:(insAt (isort (ltOf c) (l.take i)) x (l.drop (i+1)) (m+1))=isort (ltOf c) (l.take (i+1))++(l.drop (i+1)):=by rw [isort_step hx];exact insAt_end (by rw [hpl,←hR2,insPos_no hyp (by simpa [ltOf,hj0] using hc1)]))
      refine zn [0,1,2,3,8] ⟨?_⟩;refine yV ⟨?_⟩;refine n3 _ (i+1) ?_ ?_ ?_
      ·refine weak_bothC [0,1,2,3,8] [0] ⟨?_⟩;rw [hend];rfl
      ·exact Nat.le_succ_of_le hi1
      ·show _ < _;omega
    ·skip;obtain ⟨m,rfl⟩:∃m,j=m+1:=⟨j - 1,by omega⟩;have hj0:(0:Int) < ((m+1:Nat):Int):=by omega
     obtain ⟨y,hyp⟩:∃y,(isort (ltOf c) (l.take i))[m]? =some y:=⟨_,qla (by rw [hpl];omega)⟩;have hk:(((m+1:Nat):Int) - 1).toNat=m:=by omega
     have hgx:=insAt_get (p:=(isort (ltOf c) (l.take i))) (r:=(l.drop (i+1))) (x:=x) (j:=m+1) (by rw [hpl];omega);have hgy:=insAt_prev (x:=x) (r:=(l.drop (i+1))) hyp;have hil:(insAt (isort (ltOf c) (l.take i)) x (l.drop (i+1)) (m+1)).length=l.length:=by rw [insAt_len (by rw [hpl];omega),hpl,qmh];omega
     have hsw:=insAt_swap (x:=x) (r:=(l.drop (i+1))) hyp;have hgz:((insAt (isort (ltOf c) (l.take i)) x (l.drop (i+1)) (m+1)).set (m+1) y)[m]? =some y:=by rw [qlq (by omega)];exact hgy
     have hxm:=qlb hx;have hym:y∈l:=ql3 (isort_mem.1 (qlb hyp));refine v_seq ?_;intros;refine v_seq ?_;intro Q18 n18 e18 r18;refine v_draw (by kernel_rfl) ?_;intro K19 q19 k19;show aAny _ _ _ _ 17 (Array.replicate 17 false) _;have F:=Fc.mk (ai hj0 (ai @decide_true (ai @Bool.and_true (ai hk (ai (gdm hgx) (ai (gdm hgy) (ai (gdm hgz) (ai hil (ai @set_map (ai hsw @qln.{0}))))))))));refine zdMove q19 true 0 18 ?_;refine zdMove q19 true 1 19 ?_;refine zdBinOp q19 true 2 20 ?_;refine zdMove q19 true 3 21 ?_;refine zdgMove q19 true 4 22 ?_;refine zdgMove q19 true 5 23 ?_;refine zdgMove q19 true 6 24 ?_;refine zdgIndexAddr q19 true 7 25 ?_;refine zdgLoad q19 true 8 26 ?_;refine zdgMove q19 true 9 27 ?_;refine zdgMove q19 true 10 28 ?_;refine zdgBinOpW q19 true 11 29 ?_;refine zdgIndexAddr q19 true 12 30 ?_;refine zdgLoad q19 true 13 31 ?_;first
     |refine zogcc 14 (hg hxm hym) ⟨?_⟩
     |(refine aAny_pass 14 32 3 true rfl rfl (show 32 < 53 by decide) (by kernel_rfl) rfl ?_ ?_;(focus first | rfl | (simp only [zV,guardV,Nat.reduceEqDiff,reduceIte];done));simp only [zW,set_some,Nat.reduceEqDiff,reduceIte])
     refine zdgBinOp q19 true 15 33 ?_;refine zdPick q19 true 16 34 ?_;refine aAny_done (by kernel_rfl) ?_;refine k19 _ ?_;refine n18 _ _ (weak_keep [0,1,2,3,8,9,34] _) ?_;refine zk ⟨?_⟩;refine v_condS _ rfl ?_ ?_
     ·intro hc1;have hlc:ltOf c x y=true:=by simpa [ltOf,hj0] using hc1
      refine zn [0,1,2,3,8,9] ⟨?_⟩;refine v_seq ?_;intro Q21 n21 e21 r21;refine v_block ?_;intro Q22 n22 x22 e22 r22;refine v_draw (by kernel_rfl) ?_;intro K23 q23 k23;show aAny _ _ _ _ 18 (Array.replicate 18 false) _;refine zdMove q23 true 0 37 ?_;refine zdMove q23 true 1 38 ?_;refine zdMove q23 false 2 39 ?_;refine zdMove q23 false 3 40 ?_;refine zdBinOpW q23 false 4 41 ?_;refine zdMove q23 true 5 42 ?_;refine zdMove q23 true 6 43 ?_;refine zdBinOpW q23 true 7 44 ?_;refine zdIndexAddr q23 true 8 45 ?_;refine zdLoad q23 true 9 46 ?_;refine zdMove q23 true 10 47 ?_;refine zdMove q23 true 11 48 ?_;refine zdIndexAddr q23 true 12 49 ?_;refine zdLoad q23 true 13 50 ?_;refine zdIndexAddr q23 true 14 51 ?_;refine zoStore 15 ⟨?_⟩;refine zdIndexAddr q23 true 16 52 ?_;refine zoStore 17 ⟨?_⟩;refine aAny_done (by kernel_rfl) ?_;refine k23 _ ?_;refine n22 _ ?_;refine n21 _ _ (weak_keep [0,1,2,3,8,9] _) ?_;refine zk ⟨?_⟩;refine yV ⟨?_⟩;refine n11 _ m ?_ ?_ ?_
      ·refine weak_bothC [0,1,2,3,8,9] [0] ⟨?_⟩;rw [show ((m+1:Nat):Int) - 1=(m:Int) by omega]
      ·exact ⟨by omega,by rw [←hR2,insPos_yes hyp hlc]⟩
      ·show m < m+1;omega
     ·intro hc1;first
      |(have hend:(insAt (isort (ltOf c) (l.take i)) x (l.drop (i+1)) j)=isort (ltOf c) (l.take (i+1))++(l.drop (i+1)):=by rw [isort_step hx];exact insAt_end (by rw [hpl,←hR2,hj00];rfl))
      |(have hend:(insAt (isort (ltOf c) (l.take i)) x (l.drop (i+1)) (m+1))=isort (ltOf c) (l.take (i+1))++(l.drop (i+1)):=by rw [isort_step hx];exact insAt_end (by rw [hpl,←hR2,insPos_no hyp (by simpa [ltOf,hj0] using hc1)]))
      refine zn [0,1,2,3,8] ⟨?_⟩;refine yV ⟨?_⟩;refine n3 _ (i+1) ?_ ?_ ?_
      ·refine weak_bothC [0,1,2,3,8] [0] ⟨?_⟩;rw [hend];rfl
      ·exact Nat.le_succ_of_le hi1
      ·show _ < _;omega
  ·intro hc0;refine zx ⟨?_⟩;refine zf ⟨?_⟩;have hend2:isort (ltOf c) (l.take i)++l.drop i=isort (ltOf c) l:=by rw [qmg (by omega),qlt (by omega),ql6]
   exact ret_lent rfl (by simp) rfl (by simp [hend2]) (by simp [Blk.kindIs]) (.inl rfl)
theorem stable_con (l:List Int) (g:Nat) (caps:List V) (c:Int→Int→Int) (hl:l.length≤19) (hc:Caps caps) (hg:∀{a b},a∈l→b∈l→Con Tryz.prog g (V.int .i64 a::V.int .i64 b::caps) [] (.int .i64 (c a b)) []):Con Tryz.prog 91 [.ref 0,.int .i64 l.length,.fn g caps] [.arr (l.map (V.int .i64)) .flat] (.tup []) [.arr ((isort (ltOf c) l).map (V.int .i64)) .flat]:=by
 refine v_con [] [(102,[0])] Tryz.func91 rfl rfl rfl (by simp [Tryz.ntmps91]) ?_;intro Q0 n0 r0;simp only [Tryz.ntmps91,envFrom,Nat.reduceAdd];have T:=Tys.mk (ai Ty.t3 (ai Ty.t28 Ty.t75));have F:=Fc.mk True.intro;refine yR [0,1,2,6] ⟨?_⟩;refine yR [0,1,2,6,7,8] ⟨?_⟩;refine v_seq ?_;intros;refine v_block ?_;intros;refine v_loop (fun i=>⟨[(0,.ref 0),(1,.int .i64 l.length),(2,.fn g caps),(6,.int .i64 20),(7,.int .i64 0),(8,.int .i64 20)],[.arr (l.map (V.int .i64)) .flat],false,63,0⟩) (fun i=>True) (fun i=>0) () ?_ ?_ ?_
 ·refine weak_of [0,1,2,6,7,8] ?_;simp only [keep_mk,keepE_nil,keepE_cons,look_cons,look_nil,Nat.reduceEqDiff,reduceIte];all_goals rfl
 ·trivial
 ·rintro i hok5 Q5 n5 e5 r5;have hok:True:=hok5;refine v_seq ?_;intros;refine yR [0,1,2,6,7,8,13] ⟨?_⟩;refine v_cond _ rfl ?_ ?_
  ·intro hc0;exfalso;simp at hc0;omega
  ·intro hc0;try simp only [zC,reduceCtorEq] at hc0
   refine zn [0,1,2,6,7] ⟨?_⟩;refine v_seqR [0,1,2,6] ?_;intro K9 k9;refine zq2 ⟨?_⟩;refine zq2 ⟨?_⟩;refine zclc (insSort_con l g caps c (by omega) hc hg) ⟨?_⟩;refine k9 _ ?_;refine zk ⟨?_⟩;refine v_block ?_;intros;refine v_loop (fun i=>⟨[(0,.ref 0),(1,.int .i64 l.length),(2,.fn g caps),(6,.int .i64 20)],[.arr ((isort (ltOf c) l).map (V.int .i64)) .flat],false,63,0⟩) (fun i=>True) (fun i=>0) () ?_ ?_ ?_
   ·refine weak_of [0,1,2,6] ?_;simp only [keep_mk,keepE_nil,keepE_cons,look_cons,look_nil,Nat.reduceEqDiff,reduceIte];all_goals rfl
   ·trivial
   ·rintro i hok11 Q11 n11 e11 r11;have hok:True:=hok11;refine v_seq ?_;intros;refine yR [0,1,2,6,30] ⟨?_⟩;refine v_cond _ rfl ?_ ?_
    ·intro hc1;exfalso;simp at hc1;omega
    ·intro hc1;try simp only [zC,reduceCtorEq] at hc1
     refine zx ⟨?_⟩;refine zf ⟨?_⟩;exact ret_lent rfl (by simp) rfl (by simp) (by simp [Blk.kindIs]) (.inl rfl)
theorem sortStable_con (l:List Int) (g:Nat) (caps:List V) (c:Int→Int→Int) (hl:l.length≤19) (hc:Caps caps) (hg:∀{a b},a∈l→b∈l→Con Tryz.prog g (V.int .i64 a::V.int .i64 b::caps) [] (.int .i64 (c a b)) []):Con Tryz.prog 77 [.ref 0,.fn g caps] [.arr (l.map (V.int .i64)) .flat] (.tup []) [.arr ((isort (ltOf c) l).map (V.int .i64)) .flat]:=by
 refine v_con [] [(91,[0])] Tryz.func77 rfl rfl rfl (by simp [Tryz.ntmps77]) ?_;intro Q0 n0 r0;simp only [Tryz.ntmps77,envFrom,Nat.reduceAdd];have T:=Tys.mk (ai Ty.t3 (ai Ty.t28 Ty.t75));have F:=Fc.mk True.intro;refine v_region ?_;intro K1 k1;refine zq2 ⟨?_⟩;refine zLen ⟨?_⟩;refine zMove ⟨?_⟩;refine zclc (stable_con l g caps c hl hc hg) ⟨?_⟩;refine k1 _ ?_;refine n0 _ ?_;refine zf ⟨?_⟩;exact ret_lent rfl (by simp) rfl (by simp) (by simp [Blk.kindIs]) (.inl rfl)
theorem snocI {l:List Int} {x:Int}:l.map (V.int .i64)++[V.int .i64 x]=(l++[x]).map (V.int .i64):=by rw [ql1];rfl
theorem lt_key (fl:List TA) (ts:List Int):ltOf (fun a b=>cmpI (keyOf fl ts a) (keyOf fl ts b))=byKey fl ts:=by
  funext a b
  rw [ltOf,byKey];refine decide_eq_decide.2 ?_;unfold cmpI
  by_cases h:keyOf fl ts a < keyOf fl ts b
  · simp [h]
  · simp only [h,if_false,iff_false]
    split<;>omega
def allT (fl:List TA) (ts:List Int):List Int:=fl.map fun a=>Tm.at_ ts a.2.2.1.toNat
theorem ready_is {fl:List TA} {ts:List Int} {x:TA} {w:Nat} {p:Int} (hw:x.2.2.1=(w:Int)) (hp:ts[w]? =some p):readyP fl ts x=(availB x && decide (0≤p)):=by
  rw [readyP,hw,ql2,Tm.at_get hp]
theorem key_is {fl:List TA} {ts:List Int} {k:Nat} {x:TA} {w:Nat} {p:Int} (hx:fl[k]? =some x) (hw:x.2.2.1=(w:Int)) (hp:ts[w]? =some p):keyOf fl ts (k:Int)=p:=by
  rw [keyOf,ql2,hx];simp only [hw,Int.toNat_natCast,Tm.at_get hp]
set_option maxRecDepth 8000 in
theorem readyOrder1_con (fl:List TA) (ts:List Int) (a b:Int) (ha:∃(k:Nat) (x:TA) (w:Nat),a=(k:Int)∧fl[k]? =some x∧x.2.2.1=(w:Int)∧w < ts.length) (hb:∃(k:Nat) (x:TA) (w:Nat),b=(k:Int)∧fl[k]? =some x∧x.2.2.1=(w:Int)∧w < ts.length):Con Tryz.prog 78 [.int .i64 a,.int .i64 b,.pv [.sl (ts.map (V.int .i64))] 0 0,.pv [.sl (fl.map (fun t:TA=>V.agg [V.str t.1,V.int .i64 t.2.1,V.int .i64 t.2.2.1,V.int .i64 t.2.2.2.1,V.int .i64 t.2.2.2.2]))] 0 0] [] (.int .i64 (cmpI (keyOf fl ts a) (keyOf fl ts b))) []:=by
 obtain ⟨k1,⟨x0,x1,x2,x3,x4⟩,u,rfl,hx,haw,hal⟩:=ha;simp only [] at haw;subst haw;obtain ⟨p,hp⟩:∃p,ts[u]? =some p:=⟨_,qla hal⟩;have hk1l:k1 < fl.length:=(qlc.1 hx).1;have ek1:=key_is (ts:=ts) hx rfl hp;obtain ⟨k2,⟨y0,y1,y2,y3,y4⟩,v,rfl,hy,hbw,hbl⟩:=hb;simp only [] at hbw;subst hbw;obtain ⟨q,hq⟩:∃p,ts[v]? =some p:=⟨_,qla hbl⟩;have hk2l:k2 < fl.length:=(qlc.1 hy).1;have ek2:=key_is (ts:=ts) hy rfl hq;rw [ek1,ek2];refine v_con [.tmp 6] [] Tryz.func78 rfl rfl rfl (by simp [Tryz.ntmps78]) ?_;intro Q0 n0 r0;simp only [Tryz.ntmps78,envFrom,Nat.reduceAdd];have T:=Tys.mk (ai Ty.t3 (ai Ty.t9 (ai Ty.t27 (ai Ty.t28 Ty.t72))));have F:=Fc.mk True.intro;have F:=Fc.mk (ai (gdm hx) (ai (gdm hy) (ai (gdm hp) (gdm hq))));refine yR [0,1,2,3] ⟨?_⟩;refine v_seq ?_;intro Q2 n2 e2 r2;refine v_draw (by kernel_rfl) ?_;intro K3 q3 k3;show aAny _ _ _ _ 18 (Array.replicate 18 false) _;refine zdLoad q3 true 0 7 ?_;refine zdLoad q3 true 1 8 ?_;refine zdMove q3 true 2 9 ?_;refine zdIndexAddr q3 true 3 10 ?_;refine zdFieldAddr q3 true 4 11 ?_;refine zdLoad q3 true 5 12 ?_;refine zdIndexAddr q3 true 6 13 ?_;refine zdLoad q3 true 7 14 ?_;refine zdLoad q3 true 8 15 ?_;refine zdLoad q3 true 9 16 ?_;refine zdMove q3 true 10 17 ?_;refine zdIndexAddr q3 true 11 18 ?_;refine zdFieldAddr q3 true 12 19 ?_;refine zdLoad q3 true 13 20 ?_;refine zdIndexAddr q3 true 14 21 ?_;refine zdLoad q3 true 15 22 ?_;refine zoc 16 (cmpInt_con p q) ⟨?_⟩;refine zoAssign 17 ⟨?_⟩;refine aAny_done (by kernel_rfl) ?_;refine k3 _ ?_;refine n2 _ _ (weak_keep [6] _) ?_;refine zq1 ⟨?_⟩;exact ret_pure rfl rfl (.inl rfl)
set_option maxRecDepth 8000 in
theorem readyOrder_con (n:Int) (ss:List TS) (fl:List TA) (node:Int) (hd:DsFacts n ss fl) (hu:0≤node∧node < n):Con Tryz.prog 46 [.pv [.agg [.int .i64 n,.sl (ss.map (fun t:TS=>V.agg [V.int .i64 t.1,V.int .i64 t.2.1,V.int .i64 t.2.2]))]] 0 0,.sl (fl.map (fun t:TA=>V.agg [V.str t.1,V.int .i64 t.2.1,V.int .i64 t.2.2.1,V.int .i64 t.2.2.2.1,V.int .i64 t.2.2.2.2])),.int .i64 node] [] (.ref 0) [.arr ((readyL fl (tmL n ss node)).map (V.int .i64)) .flat]:=by
 have hfl:=hd.hfl;obtain ⟨ts,hts⟩:∃ts,ts=tmL n ss node:=⟨_,rfl⟩;have htl:ts.length=n.toNat:=by rw [hts,times_len]
 have htb:=tm_facts hd.hn hu hd.hss hd.hsl;rw [←hts] at htb⊢;have hn14:=hd.hn;have hvalid:∀{a:Int},a∈readyTo fl ts fl.length→∃(k:Nat) (x:TA) (w:Nat),a=(k:Int)∧fl[k]? =some x∧x.2.2.1=(w:Int)∧w < ts.length:=by
  intro a ha;obtain ⟨k,x,h1,h2,h3,_⟩:=ready_mem fl ts _ a ha;have hap:=hd.hap _ (qlb h3);obtain ⟨w,hw⟩:=qlf hap.2.1;exact ⟨k,x,w,h1,h3,hw,by rw [htl];omega⟩
 have hrl:=ready_len fl ts fl.length;refine v_con [.tmp 6] [(77,[0])] Tryz.func46 rfl rfl rfl (by simp [Tryz.ntmps46]) ?_;intro Q0 n0 r0;simp only [Tryz.ntmps46,envFrom,Nat.reduceAdd];have T:=Tys.mk (ai Ty.t3 (ai Ty.t4 (ai Ty.t9 (ai Ty.t24 (ai Ty.t26 (ai Ty.t27 (ai Ty.t28 (ai Ty.t59 (ai Ty.t72 (ai Ty.t75 Ty.t98))))))))));have F:=Fc.mk True.intro;refine yR [0,2,4] ⟨?_⟩;refine v_seq ?_;intro Q2 n2 e2 r2;refine yVc ((hts ▸ tTimes_con n ss node hd.hn hu hd.hss hd.hsl:Con _ _ _ _ _ [.arr (ts.map (V.int .i64)) .flat])) ⟨?_⟩;apply n2
 ·apply weak_trans (weak_keep [4,7] _);simp only [keep_mk,keepE_nil,keepE_cons,look_cons,look_nil,Nat.reduceEqDiff,reduceIte];exact weak_trans (weak_freeze 4 2 (ts.map (V.int .i64)) .flat rfl rfl (.inl rfl) (by decide)) weak_view
 try simp only [atSlot_cons,atSlot_nil,Nat.reduceEqDiff,reduceIte,List.set_cons_zero,List.set_cons_succ]
 refine yR [4,7,8] ⟨?_⟩;refine v_seq ?_;intros;refine yR [4,7,8,14,15,16] ⟨?_⟩;refine v_block ?_;intros;refine v_loop (fun i=>⟨[(4,.ptr 0 0 0),(7,.ptr 1 0 0),(8,.ref 2),(14,.sl (fl.map (fun t:TA=>V.agg [V.str t.1,V.int .i64 t.2.1,V.int .i64 t.2.2.1,V.int .i64 t.2.2.2.1,V.int .i64 t.2.2.2.2]))),(15,.int .i64 fl.length),(16,.int .i64 (Nat.cast i))],[.box (.sl (fl.map (fun t:TA=>V.agg [V.str t.1,V.int .i64 t.2.1,V.int .i64 t.2.2.1,V.int .i64 t.2.2.2.1,V.int .i64 t.2.2.2.2]))) .shal,.box (.sl (ts.map (V.int .i64))) .deep,.arr ((readyTo fl ts i).map (V.int .i64)) .flat],true,40,0⟩) (fun i=>i≤fl.length) (fun i=>fl.length - i) 0 ?_ ?_ ?_
 ·refine weak_bothS [4,7,8,14,15,16] [0,4,5] ⟨?_⟩;rfl
 ·exact qlk _
 ·rintro i hok8 Q8 n8 e8 r8;have hi1:i≤fl.length:=hok8;refine yR [4,7,8,14,15,16,17] ⟨?_⟩;refine v_seq ?_;intros;refine v_condS _ rfl ?_ ?_
  ·intro hc0;have hlt:i < fl.length:=by omega
   obtain ⟨⟨x0,x1,x2,x3,x4⟩,hx⟩:∃x:TA,fl[i]? =some x:=⟨fl[i]'(by omega),qla (by omega)⟩;have hap:=hd.hap _ (qlb hx);simp only [] at hap;obtain ⟨w,hw⟩:=qlf hap.2.1;subst hw;obtain ⟨p,hp⟩:∃p,ts[w]? =some p:=⟨_,qla (by rw [htl];omega)⟩;have hwl:w < ts.length:=by rw [htl];omega
   have hpb:=htb w;rw [Tm.at_get hp] at hpb;have hrp:=ready_is (fl:=fl) (x:=(x0,x1,(w:Int),x3,x4)) rfl hp;have hst:=ready_step (ts:=ts) hx;have hrl2:=ready_len fl ts i;have hki:=key_is (ts:=ts) hx rfl hp;refine zn [4,7,8,14,15,16] ⟨?_⟩;refine v_seq ?_;intros;refine v_block ?_;intros;have F:=Fc.mk (ai (gdm hx) (gdm hp));refine yR [4,7,8,9,10,14,15,16] ⟨?_⟩;refine yRc [4,7,8,9,14,15,16,30] (isAvailable_con x0 x1 (w:Int) x3 x4 hap.1) ⟨?_⟩;refine v_condS _ rfl ?_ ?_
   ·intro hc1;have hr1:readyP fl ts (x0,x1,(w:Int),x3,x4)=true:=by rw [hrp];simpa using hc1
    refine yQ [4,7,8,14,15,16] ⟨?_⟩;refine yV ⟨?_⟩;refine n8 _ (i+1) ?_ ?_ ?_
    ·refine weak_bothS [4,7,8,14,15,16] [0,1,5] ⟨?_⟩;rw [hst,if_pos hr1,ql1];rfl
    ·exact hlt
    ·show _ < _;omega
   ·intro hc1;have hr1:¬readyP fl ts (x0,x1,(w:Int),x3,x4)=true:=by rw [hrp];simpa using hc1
    refine zn [4,7,8,14,15,16] ⟨?_⟩;refine yV ⟨?_⟩;refine n8 _ (i+1) ?_ ?_ ?_
    ·refine weak_bothS [4,7,8,14,15,16] [0,1,2] ⟨?_⟩;rw [hst,if_neg hr1];rfl
    ·exact hlt
    ·show _ < _;omega
  ·intro hc0;have hend:i=fl.length:=by omega
   subst hend;refine zn [4,7,8] ⟨?_⟩;refine yRl [8] (sortStable_con (readyTo fl ts fl.length) _ _ (fun a b=>cmpI (keyOf fl ts a) (keyOf fl ts b)) (by omega) (.pv _ (.pv _ .nil)) (fun ha hb=>readyOrder1_con fl ts _ _ (hvalid ha) (hvalid hb))) ⟨?_⟩;refine yR [6] ⟨?_⟩;refine zr ⟨?_⟩;exact ret_refK rfl rfl (by rw [lt_key];rfl)
end Go.Proofs.YtmhaafinhpopmaaGreat
