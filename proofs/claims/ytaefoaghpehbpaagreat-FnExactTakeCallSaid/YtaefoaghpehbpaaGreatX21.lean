/- What functions compute. No condition. -/
import Derived.Test.YtaefoaghpehbpaaGreatUz
import Derived.Test.YtaefoaghpehbpaaGreatUty
import Derived.Test.YtaefoaghpehbpaaGreatUmG
import Derived.Test.YtaefoaghpehbpaaGreatX20
import Derived.Test.YtaefoaghpehbpaaGreatX18
import Derived.Test.YtaefoaghpehbpaaGreatX17
import Derived.Test.YtaefoaghpehbpaaGreatX13
import Derived.Test.YtaefoaghpehbpaaGreatX14
import Derived.Test.YtaefoaghpehbpaaGreatX4
import Derived.Test.YtaefoaghpehbpaaGreatX11
import Derived.Test.YtaefoaghpehbpaaGreatX19
import Derived.Test.YtaefoaghpehbpaaGreatX1
import Derived.Test.YtaefoaghpehbpaaGreatX12
set_option linter.unusedSimpArgs false
set_option linter.unusedVariables false
set_option linter.defProp false
namespace Go.Proofs.YtaefoaghpehbpaaGreat
open Go Go.Vm
set_option maxHeartbeats 8000000
set_option maxRecDepth 100000 in
theorem d2o (n:Int) (ss:List TS) (fl:List TA) (ins:List TI) (ws:List TW) (tb:List (Int×Int×Int×Int×Int×Int×List Int)) (node a b c:Int) (htb:tb.length≤1048576) (htbs:∀t∈tb,t.2.2.2.2.2.2.length≤1048576) (hs:ss.length≤1048576) (hl:fl.length≤1048576) (hls:∀t∈fl,t.1.size≤9223372036854775807) (hil:ins.length≤1048576) (hin:∀x∈ins,x.2.2.2.length≤1048576) (his:∀x∈ins,∀s∈x.2.2.2,s.size≤9223372036854775807) (hwl:ws.length≤1048576) (hwn:∀x∈ws,x.2.length≤1048576):Con Tryz.prog 30 [.agg [.int .i64 n,.sl (ss.map (fun t:TS=>V.agg [V.int .i64 t.1,V.int .i64 t.2.1,V.int .i64 t.2.2]))],.sl (tb.map (fun t:Int×Int×Int×Int×Int×Int×List Int=>V.agg [V.int .i64 t.1,V.int .i64 t.2.1,V.int .i64 t.2.2.1,V.int .i64 t.2.2.2.1,V.int .i64 t.2.2.2.2.1,V.int .i64 t.2.2.2.2.2.1,V.sl (t.2.2.2.2.2.2.map (V.int .i64))])),.agg [.sl (fl.map (fun t:TA=>V.agg [V.str t.1,V.int .i64 t.2.1,V.int .i64 t.2.2.1,V.int .i64 t.2.2.2.1,V.int .i64 t.2.2.2.2])),.sl (ins.map (fun t:TI=>V.agg [V.int .i64 t.1,V.int .i64 t.2.1,V.bool t.2.2.1,V.sl (t.2.2.2.map V.str)])),.sl (ws.map (fun t:TW=>V.agg [V.int .i64 t.1,V.sl (t.2.map (V.int .i64))]))],.int .i64 node,.agg [.int .i64 a,.int .i64 b,.int .i64 c]] [] (.tup [.agg [.ref 0,.ref 1,.ref 2],.int .i64 (bif (tkB n ss fl ins ws tb node a b c) then b8l ins else 0),.bool (tkB n ss fl ins ws tb node a b c)]) [.arr ((b3l (tkB n ss fl ins ws tb node a b c) (chF n ss fl node (nfL tb a b c))).map (fun t:TA=>V.agg [V.str t.1,V.int .i64 t.2.1,V.int .i64 t.2.2.1,V.int .i64 t.2.2.2.1,V.int .i64 t.2.2.2.2])) .flat,.arr ((b3l (tkB n ss fl ins ws tb node a b c) (tkI n ss fl ins node (nfL tb a b c))).map (fun t:TI=>V.agg [V.int .i64 t.1,V.int .i64 t.2.1,V.bool t.2.2.1,V.sl (t.2.2.2.map V.str)])) (b1v (b3l (tkB n ss fl ins ws tb node a b c) (tkI n ss fl ins node (nfL tb a b c))).length),.arr ((b3l (tkB n ss fl ins ws tb node a b c) (tkW n ss fl ins ws node (nfL tb a b c))).map (fun t:TW=>V.agg [V.int .i64 t.1,V.sl (t.2.map (V.int .i64))])) (b1v (b3l (tkB n ss fl ins ws tb node a b c) (tkW n ss fl ins ws node (nfL tb a b c))).length)]:=by
 refine b05 [.cell 10 36,.tmp 11,.tmp 12] [(86,[0])] Tryz.func30 rfl rfl rfl (by simp [Tryz.ntmps30]) ?_
 intro Q0 n0 r0
 simp only [Tryz.ntmps30,b0l,Nat.reduceAdd]
 have T:=Tys.mk (ai Ty.t3 (ai Ty.t4 (ai Ty.t9 (ai Ty.t32 (ai Ty.t33 (ai Ty.t34 (ai Ty.t36 (ai Ty.t39 (ai Ty.t41 (ai Ty.t51 (ai Ty.t63 (ai Ty.t65 (ai Ty.t75 (ai Ty.t96 (ai Ty.t99 (ai Ty.t102 (ai Ty.t108 (ai Ty.t110 (ai Ty.t138 Ty.t169)))))))))))))))))))
 have F:=Fc.mk True.intro
 refine yR [1,3,5,7,9,10] ⟨?_⟩;refine b0c ?_;intros;refine b4y [1,3,5,7,9,10,41] ?_;intro K3 k3;refine zc (b8p n ss hs) ⟨?_⟩;refine f5u ⟨?_⟩;refine b6n ⟨?_⟩;refine d6s ⟨?_⟩;refine zgc (d5x tb htb htbs) ⟨?_⟩;refine c8f ⟨?_⟩;refine c81 ⟨?_⟩;refine b6n ⟨?_⟩;refine zgc (d1o n ss fl ins ws hs hl hls hil hin his hwl hwn) ⟨?_⟩;refine c8f ⟨?_⟩;refine c81 ⟨?_⟩;refine b6n ⟨?_⟩;refine d6s ⟨?_⟩;refine zgc (c3n n ss node) ⟨?_⟩;refine c8f ⟨?_⟩;refine c81 ⟨?_⟩;refine b6n ⟨?_⟩;refine f0t ⟨?_⟩;refine zgc (d9r a b c) ⟨?_⟩;refine c8f ⟨?_⟩;refine c81 ⟨?_⟩;refine k3 _ ?_;refine zk ⟨?_⟩;refine b0d _ rfl ?_ ?_
 ·intro hc0
  have hB:(tkB n ss fl ins ws tb node a b c)=false:=by
   cases hq:(tkB n ss fl ins ws tb node a b c) with
   |false=>rfl
   |true=>
    exfalso
    simp only [tkB,Bool.and_eq_true] at hq
    have q6:=d1u hq.1.1.1.1
    rw [nfB,Bool.and_eq_true,Bool.and_eq_true] at hq
    simp [hq.1.1.1.1,hq.1.1.1.2.1.1,hq.1.1.1.2.1.2,hq.1.1.2,q6] at hc0
  refine yR [10,11,12] ⟨?_⟩;refine zq3 ⟨?_⟩
  simp only [hB,b7b,List.map_nil,List.length_nil,c3u,cond_false]
  exact rta
 ·intro hc0
  have hg:(c2h n ss fl ins ws)=true∧b9q tb=true∧d3b a b c=true∧c0p n node=true:=by
   cases q1:(c2h n ss fl ins ws)<;>cases q2:b9q tb<;>cases q3:d3b a b c<;>cases q4:c0p n node<;>simp [q1,q2,q3,q4] at hc0⊢
  have hp0:=(d04 n ss fl ins ws).1 hg.1
  have hni:=hp0.inc
  refine zn [1,3,5,7,9,10] ⟨?_⟩;refine yRc [3,5,7,10,13,14] (c8g tb a b c htb htbs) ⟨?_⟩;refine yRc [5,7,10,13,14,15,16,17] (d24 ins node hni hil hin) ⟨?_⟩;refine b0c ?_;intros;refine yR [5,7,10,13,15,16,62] ⟨?_⟩;refine b0d _ rfl ?_ ?_
  ·intro hc1
   have hB:(tkB n ss fl ins ws tb node a b c)=false:=by
    rw [tkB,nfB]
    by_cases q1:0≤d1k tb a b c
    ·cases q2:opB ins with
     |false=>simp
     |true=>exfalso;first | (simp [q1,q2] at hc1;done) | (simp [q2] at hc1;omega)
    ·rw [decide_eq_false q1];simp
   refine yR [10,11,12] ⟨?_⟩;refine zq3 ⟨?_⟩
   simp only [hB,b7b,List.map_nil,List.length_nil,c3u,cond_false]
   exact rta
  ·intro hc1
   have hw2:decide (0≤d1k tb a b c)=true∧opB ins=true:=by
    by_cases q1:0≤d1k tb a b c
    ·cases q2:opB ins with
     |false=>exfalso;first | (simp [q1,q2] at hc1;done) | (simp [q2] at hc1;omega)
     |true=>exact ⟨decide_eq_true q1,rfl⟩
    ·exfalso;first | (simp [q1] at hc1;done) | (simp at hc1;omega)
   have hnf2:nfB tb a b c=true:=by rw [nfB,hg.2.1,hg.2.2.1,hw2.1];rfl
   have hq:(c2h n ss fl ins ws)=true∧nfB tb a b c=true∧c0p n node=true:=by
    exact ⟨hg.1,hnf2,hg.2.2.2⟩
   have hK:=f5m (n:=n) (ss:=ss) (fl:=fl) (ins:=ins) (ws:=ws) (tb:=tb) (node:=node) (a:=a) (b:=b) (c:=c) hq.1 hq.2.1 hq.2.2
   have h8:=hK.p.ws8
   have hi8:=hK.p.inc.len
   have h12:=hK.p.fl12
   have hnd:=hK.need
   have hNF:=hK.nf
   simp only [hw2.1,b6i]
   have ho:opB ins=true:=by
    exact hw2.2
   obtain ⟨hSx,hkp,hck⟩:SendOK n ss fl (ins++[b7h ins node]) ins.length (b8l ins,node,false,[]) (nfL tb a b c)∧CtlProp n ss (chF n ss fl node (nfL tb a b c)) (tkI n ss fl ins node (nfL tb a b c)) ws∧c2h n ss (chF n ss fl node (nfL tb a b c)) (tkI n ss fl ins node (nfL tb a b c)) (tkW n ss fl ins ws node (nfL tb a b c))=(tkZ n ss fl node (nfL tb a b c) || decide (ws.length < 8)):=⟨f22 hK.p hK.nd hK.nn ho hnd,d0d hK.p hK.nd hK.nn ho hnd,d68 hK.p hK.nd hK.nn ho hnd⟩
   have hBZ:(tkB n ss fl ins ws tb node a b c)=(tkZ n ss fl node (nfL tb a b c) || decide (ws.length < 8)):=by rw [tkB,hq.1,hq.2.1,hq.2.2,ho];rfl
   have hjl:(ins++[b7h ins node]).length=ins.length+1:=by rw [List.length_append,List.length_singleton]
   have hjs:=c08 ins (b7h ins node)
   have hti:(tkI n ss fl ins node (nfL tb a b c))=b5u ins.length (ins++[b7h ins node]) (chN n ss fl node (nfL tb a b c)):=rfl
   have htl:(tkI n ss fl ins node (nfL tb a b c)).length=ins.length+1:=f5b
   have hcl:=c2o (n:=n) (ss:=ss) (fl:=fl) (node:=node) hnd
   have hin2:∀x∈ins++[b7h ins node],x.2.2.2.length≤1048576:=c98 hin (Nat.zero_le _)
   simp only [ho,b6i,cond_true]
   generalize hjn:ins++[b7h ins node]=jn at hSx hjl hjs hti hin2⊢
   have hlm:(jn.length:Int) - 1=(ins.length:Int):=by omega
   obtain ⟨z,zl,hz2⟩:∃z zl,chL n ss fl node (nfL tb a b c)=z::zl:=by
    cases hc:chL n ss fl node (nfL tb a b c) with
    |nil=>rw [hc] at hcl;cases hcl.1
    |cons z zl=>exact ⟨z,zl,rfl⟩
   have hn4c:=d6w hcl
   have hmp:0 < b8q zl z↔(chL n ss fl node (nfL tb a b c)).all (fun x:Int=>inR x 0 0)=false:=by rw [hz2] at hn4c⊢;exact f5n hn4c
   have hzl:(z::zl).length≤1048576:=by rw [←hz2];omega
   refine zn [5,7,10,13,15,16] ⟨?_⟩
   have F:=Fc.mk hlm
   refine yRc [5,10,13,15,16,18] (c7l fl ins ws hl hil hin hwl hwn) ⟨?_⟩;refine yR [5,10,13,15,16,18] ⟨?_⟩;refine b0c ?_;intro Q14 n14 e14 r14;refine b4c ?_;intro K15 k15;refine b6n ⟨?_⟩;refine f75 ⟨?_⟩;refine d49 ⟨?_⟩;refine b6n ⟨?_⟩;refine b5v ?_;intro K k
   simp only [zE,zM,b03,b0w,b0m,Nat.reduceEqDiff,reduceIte,Nat.reduceLT,implies_true,forall_const,reduceCtorEq,V.ofValue,V.ofScalar,V.un,V.gd,b1k,b3s,b4p,‹Tys _›.h,‹Fc _›.h]
   repeat (refine f3t ?_)
   refine d2d 15 (c9d 15 9 8 11 _ _ _ (b1v _) (b1v _) rfl rfl rfl rfl (b9n _) (b9n _) (by decide) (by decide) (by decide) (by decide) (by decide) (by decide)) (f18 n ss fl jn ins.length (b8l ins) node false [] (nfL tb a b c) hSx ws) rfl rfl ⟨rfl,by simp⟩ (.inl rfl) ⟨rfl,by simp [Blk.kindIs,b2g]⟩ ?_;refine k _ ?_;clear k K
   simp only [zY,zW,b0m,Nat.reduceEqDiff,reduceIte,b7f,c8k,V.ren,V.renL,List.set_cons_zero,List.set_cons_succ,rho,List.length_set,Nat.reduceAdd,Nat.add_zero]
   refine b6n ⟨?_⟩;refine b9j ⟨?_⟩;refine b9j ⟨?_⟩;refine b30 ⟨?_⟩;refine b30 ⟨?_⟩;refine k15 _ ?_
   apply n14
   ·apply b1i (b0f [10,16,18,20] _)
    simp only [b0s,b0k,b0h,b0i,b0n,Nat.reduceEqDiff,reduceIte]
    exact b1i (d30 15 ((chF n ss fl node (nfL tb a b c)).map (fun t:TA=>V.agg [V.str t.1,V.int .i64 t.2.1,V.int .i64 t.2.2.1,V.int .i64 t.2.2.2.1,V.int .i64 t.2.2.2.2])) ((b5u ins.length jn (chN n ss fl node (nfL tb a b c))).map (fun t:TI=>V.agg [V.int .i64 t.1,V.int .i64 t.2.1,V.bool t.2.2.1,slN (t.2.2.2.map V.str)])) (ws.map (fun t:TW=>V.agg [V.int .i64 t.1,V.sl (t.2.map (V.int .i64))])) (b1v (b5u ins.length jn (chN n ss fl node (nfL tb a b c))).length) (b1v ws.length) rfl f3f d58 d4v d58 d4v rfl) (f4t 19 (b5u ins.length jn (chN n ss fl node (nfL tb a b c))) _ rfl)
   try simp only [b1r,b1y,Nat.reduceEqDiff,reduceIte,List.set_cons_zero,List.set_cons_succ]
   refine b0c ?_;intro Q16 n16 e16 r16;refine yRc [10,16,18,20,77] (f55 hz2 (c7o z zl hzl)) ⟨?_⟩;refine b0d _ rfl ?_ ?_
   ·intro hc2
    have hz:tkZ n ss fl node (nfL tb a b c)=false:=by
     cases q:tkZ n ss fl node (nfL tb a b c) with
     |false=>rfl
     |true=>exfalso;rw [tkZ] at q;have hq9:=hmp;rw [q] at hq9;simp at hc2 hq9;omega
    have hW:=f52 (ins:=ins) (ws:=ws) hz
    have hsn:ws.map (fun t:TW=>V.agg [V.int .i64 t.1,V.sl (t.2.map (V.int .i64))])++[V.agg [V.int .i64 (b8l ins),V.sl ((chL n ss fl node (nfL tb a b c)).map (V.int .i64))]]=(ws++[(b8l ins,chL n ss fl node (nfL tb a b c))]).map (fun t:TW=>V.agg [V.int .i64 t.1,V.sl (t.2.map (V.int .i64))]):=by rw [List.map_append];rfl
    have hwl2:(ws++[(b8l ins,chL n ss fl node (nfL tb a b c))]).length=ws.length+1:=by rw [List.length_append,List.length_singleton]
    refine b0c ?_;intros;refine yR [10,16,18,20,81] ⟨?_⟩;refine b0d _ rfl ?_ ?_
    ·intro hc3
     have hB:(tkB n ss fl ins ws tb node a b c)=false:=by rw [hBZ,hz,decide_eq_false (by simp at hc3;omega)];rfl
     refine yR [10,11,12] ⟨?_⟩;refine zq3 ⟨?_⟩
     simp only [hB,b7b,List.map_nil,List.length_nil,c3u,cond_false]
     exact rta
    ·intro hc3
     have hB:(tkB n ss fl ins ws tb node a b c)=true:=by rw [hBZ,hz,decide_eq_true (show ws.length < 8 by simp at hc3;omega)];rfl
     refine zn [10,16,18,20] ⟨?_⟩;refine yV ⟨?_⟩
     apply n16
     ·apply b1i (b0f [10,16,18] _)
      simp only [b0s,b0k,b0h,b0i,b0n,Nat.reduceEqDiff,reduceIte]
      first | (rw [hsn,←hwl2,←hti];exact b2s _ _) | (rw [←hti];exact b2s _ _)
     try simp only [b1r,b1y,Nat.reduceEqDiff,reduceIte,List.set_cons_zero,List.set_cons_succ]
     refine yR [10,11,12] ⟨?_⟩;refine zq3 ⟨?_⟩
     simp only [hB,b6i,cond_true,hW]
     exact rta
   ·intro hc2
    have hz:tkZ n ss fl node (nfL tb a b c)=true:=by
     cases q:tkZ n ss fl node (nfL tb a b c) with
     |true=>rfl
     |false=>exfalso;rw [tkZ] at q;have hq9:=hmp;rw [q] at hq9;simp at hc2 hq9;omega
    have hW:=f5z (ins:=ins) (ws:=ws) hz
    have hB:(tkB n ss fl ins ws tb node a b c)=true:=by rw [hBZ,hz];rfl
    refine c9s ?_
    apply n16
    ·apply b1i (b0f [10,16,18] _)
     simp only [b0s,b0k,b0h,b0i,b0n,Nat.reduceEqDiff,reduceIte]
     first | (rw [hsn,←hwl2,←hti];exact b2s _ _) | (rw [←hti];exact b2s _ _)
    try simp only [b1r,b1y,Nat.reduceEqDiff,reduceIte,List.set_cons_zero,List.set_cons_succ]
    refine yR [10,11,12] ⟨?_⟩;refine zq3 ⟨?_⟩
    simp only [hB,b6i,cond_true,hW]
    exact rta
theorem d87 (a b c:Int):Con Tryz.prog 29 [.agg [.int .i64 a,.int .i64 b,.int .i64 c]] [] (.agg [.int .i64 a,.int .i64 b,.int .i64 c]) []:=by
 refine b05 [.cell 2 65] [] Tryz.func29 rfl rfl rfl (by simp [Tryz.ntmps29]) ?_
 intro Q0 n0 r0
 simp only [Tryz.ntmps29,b0l,Nat.reduceAdd]
 have T:=Tys.mk (ai Ty.t3 (ai Ty.t59 Ty.t65))
 have F:=Fc.mk True.intro
 refine yR [1,2] ⟨?_⟩;refine yR [1,2,3] ⟨?_⟩;refine yR [1,2,3] ⟨?_⟩;refine yR [1,2,3] ⟨?_⟩;refine yR [2,3] ⟨?_⟩;refine yR [2] ⟨?_⟩;refine zq3 ⟨?_⟩
 exact b0a rfl (by first | rfl | simp) (.inl rfl)
theorem b6d {P:Program} {L:b5h} {rg:Array Oper} {K:St→Prop} {fuel:Nat} {listed:Array Bool} {env:List (Nat×V)} {O:List Blk} {vw:Bool} {n m:Nat} {oi:Oper} {rest:List Oper} {v:V} (hK:∀s t,EqS s t→K s→K t) (kp:Bool) (i d:Nat)
    (b:b14 P L rg K fuel (listed.setIfInBounds i true) ⟨(d,v)::env,O,vw,n,m⟩) (hi:rg.toList.drop i=oi::rest:=by rfl) (hd:oi.dst=some d:=by rfl) (hf:Region.freeG L kp rg listed i=true:=by kernel_rfl) (hr:(Region.ready .any rg listed).contains i=true:=by kernel_rfl)
    (hp:b5x P L rg kp oi d v ⟨env,O,vw,n,m⟩:=by
      intro t hn gx ho K' k'
      dsimp only at hn
      first | have r0:=b02 (ho rfl) 0 rfl | have r0:=True.intro
      first | have r1:=b02 (ho rfl) 1 rfl | have r1:=True.intro
      first | have r2:=b02 (ho rfl) 2 rfl | have r2:=True.intro
      first | have r3:=b02 (ho rfl) 3 rfl | have r3:=True.intro
      first | have r4:=b02 (ho rfl) 4 rfl | have r4:=True.intro
      first | have r5:=b02 (ho rfl) 5 rfl | have r5:=True.intro
      first | have r6:=b02 (ho rfl) 6 rfl | have r6:=True.intro
      first | have r7:=b02 (ho rfl) 7 rfl | have r7:=True.intro
      first | have r8:=b02 (ho rfl) 8 rfl | have r8:=True.intro
      first | have r9:=b02 (ho rfl) 9 rfl | have r9:=True.intro
      first | have r10:=b02 (ho rfl) 10 rfl | have r10:=True.intro
      first | have r11:=b02 (ho rfl) 11 rfl | have r11:=True.intro
      first | have r12:=b02 (ho rfl) 12 rfl | have r12:=True.intro
      first | have r13:=b02 (ho rfl) 13 rfl | have r13:=True.intro
      first | have r14:=b02 (ho rfl) 14 rfl | have r14:=True.intro
      first | have r15:=b02 (ho rfl) 15 rfl | have r15:=True.intro
      first | have r16:=b02 (ho rfl) 16 rfl | have r16:=True.intro
      first | have r17:=b02 (ho rfl) 17 rfl | have r17:=True.intro
      first | have r18:=b02 (ho rfl) 18 rfl | have r18:=True.intro
      first | have r19:=b02 (ho rfl) 19 rfl | have r19:=True.intro
      first | have r20:=b02 (ho rfl) 20 rfl | have r20:=True.intro
      first | have r21:=b02 (ho rfl) 21 rfl | have r21:=True.intro
      first | have r22:=b02 (ho rfl) 22 rfl | have r22:=True.intro
      first | have r23:=b02 (ho rfl) 23 rfl | have r23:=True.intro
      first | have r24:=b02 (ho rfl) 24 rfl | have r24:=True.intro
      first | have r25:=b02 (ho rfl) 25 rfl | have r25:=True.intro
      first | have r26:=b02 (ho rfl) 26 rfl | have r26:=True.intro
      first | have r27:=b02 (ho rfl) 27 rfl | have r27:=True.intro
      first | have r28:=b02 (ho rfl) 28 rfl | have r28:=True.intro
      first | have r29:=b02 (ho rfl) 29 rfl | have r29:=True.intro
      first | have r30:=b02 (ho rfl) 30 rfl | have r30:=True.intro
      first | have r31:=b02 (ho rfl) 31 rfl | have r31:=True.intro
      first | have r32:=b02 (ho rfl) 32 rfl | have r32:=True.intro
      first | have r33:=b02 (ho rfl) 33 rfl | have r33:=True.intro
      first | have r34:=b02 (ho rfl) 34 rfl | have r34:=True.intro
      first | have r35:=b02 (ho rfl) 35 rfl | have r35:=True.intro
      first | have r36:=b02 (ho rfl) 36 rfl | have r36:=True.intro
      first | have r37:=b02 (ho rfl) 37 rfl | have r37:=True.intro
      first | have r38:=b02 (ho rfl) 38 rfl | have r38:=True.intro
      first | have r39:=b02 (ho rfl) 39 rfl | have r39:=True.intro
      refine .inl ?_
      simp (disch:=first | decide | rfl) only [gx,r0,r1,r2,r3,r4,r5,zE,zL,zO,zN,r6,r7,r8,r9,r10,r11,r12,r13,r14,r15,r16,r17,r18,r19,r20,r21,r22,r23,r24,r25,r26,r27,r28,r29,r30,r31,r32,r33,r34,r35,r36,r37,r38,r39,b03,b0w,Nat.reduceEqDiff,reduceIte,Nat.reduceLT,implies_true,forall_const,reduceCtorEq,V.ofValue,V.ofScalar,V.un,V.gd,b1k,aop,b8g,b1j,Blk.row,b9y,Go.Vm.part,V.cells,V.noSl,V.noRef,Nat.reduceAdd,Nat.reduceLeDiff,Nat.reduceMul,b00,Value.oneCell',List.all_cons,List.all_nil,‹Tys _›.h,‹Fc _›.h]
      repeat (refine b4o ?_)
      exact k'):b14 P L rg K (fuel+1) listed ⟨env,O,vw,n,m⟩:=b13 hK kp i d hi hd hf hr ⟨v,hp,b⟩
theorem f8a {n:Int} {l:List (Int×Int×Int×Int×Int×Int×List Int)} (h0:0≤n) (hn:n≤1048576) (h:0≤(if n - (l.length:Int) < 0 then -1 else b28 b53 (n - (l.length:Int)) l)):l.length≤1048576∧(∀x∈l,x.2.2.2.2.2.2.length≤1048576)∧(0≤(if n - (l.length:Int) < 0 then -1 else b28 b53 (n - (l.length:Int)) l)∧(if n - (l.length:Int) < 0 then -1 else b28 b53 (n - (l.length:Int)) l)≤1048576):=by
  obtain ⟨h1,h2⟩:=f6p (f:=b53) c7k h0 hn h
  refine ⟨h1,fun x hx=> ?_,h2⟩
  split at h
  · omega
  · have:=d9j (by omega) h x hx;omega
theorem f6r (n:Int) (ss:List TS) (fl:List TA) (ins:List TI) (ws:List TW) (tb:List (Int×Int×Int×Int×Int×Int×List Int)) (node a b c:Int) (hb:ws.length≤1048576) (hw:∀x∈ws,x.2.length≤1048576):(b3l (tkB n ss fl ins ws tb node a b c) (chF n ss fl node (nfL tb a b c))).length≤1048576∧(b3l (tkB n ss fl ins ws tb node a b c) (tkI n ss fl ins node (nfL tb a b c))).length≤1048576∧(∀x∈b3l (tkB n ss fl ins ws tb node a b c) (tkI n ss fl ins node (nfL tb a b c)),x.2.2.2.length≤1048576)∧(b3l (tkB n ss fl ins ws tb node a b c) (tkW n ss fl ins ws node (nfL tb a b c))).length≤1048576∧(∀x∈b3l (tkB n ss fl ins ws tb node a b c) (tkW n ss fl ins ws node (nfL tb a b c)),x.2.length≤1048576):=by
  rcases Bool.eq_false_or_eq_true (tkB n ss fl ins ws tb node a b c) with hB | hB
  · rw [hB]
    simp only [b6i]
    have hq:=hB
    simp only [tkB,Bool.and_eq_true] at hq
    have hK:=f5m (n:=n) (ss:=ss) (fl:=fl) (ins:=ins) (ws:=ws) (tb:=tb) (node:=node) (a:=a) (b:=b) (c:=c) hq.1.1.1.1 hq.1.1.1.2 hq.1.1.2
    have hkp:=d0d hK.p hK.nd hK.nn hq.1.2 hK.need
    obtain ⟨h1,_,h3,h4,_⟩:=d2w hkp
    obtain ⟨h5,h6⟩:=f6v (n:=n) (ss:=ss) (fl:=fl) (ins:=ins) (node:=node) hK.p.ws8 hw hK.need
    exact ⟨h1,h3,h4,h5,h6⟩
  · rw [hB];simp [b7b]
end Go.Proofs.YtaefoaghpehbpaaGreat
