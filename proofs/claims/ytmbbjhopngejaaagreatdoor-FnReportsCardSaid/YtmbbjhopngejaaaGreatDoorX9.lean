/- What functions compute. No condition. -/
import Derived.Test.YtmbbjhopngejaaaGreatDoorX8
set_option linter.unusedSimpArgs false
set_option linter.unusedVariables false
set_option linter.defProp false
namespace Go.Proofs.YtmbbjhopngejaaaGreatDoor
open Go Go.Vm
set_option maxHeartbeats 8000000
theorem f51 {fl:List TA} {s:List Int×List Int} {k kd:Nat} {x:TA} {v:Int} (hx:fl[k]? =some x) (hk:x.2.1=(kd:Int)) (hv:s.1[kd]? =some v):d10 fl s (k:Int)=if 0 < v then (s.1.set kd (v - 1),s.2++[(k:Int)]) else s:=by
  rw [d10,qli,hx];simp only [hk,Int.toNat_natCast,List.getD_eq_getElem?_getD,hv,Option.getD_some]
def c7j (n:Int) (ss:List TS) (fl:List TA) (node:Int) (need:List Int):List Int×List Int:=c6f fl (c2f fl (tmL n ss node)) need
set_option maxRecDepth 8000 in
theorem f0n (n:Int) (ss:List TS) (fl:List TA) (node:Int) (need:List Int) (hd:DsFacts n ss fl) (hu:0≤node∧node < n) (hn:need.length=4∧∀x∈need,0≤x∧x≤6):Con Tryz.prog 170 [tQ n ss,sQ rQa fl,.int .i64 node,.sl (need.map (V.int .i64))] [] (.tup [.ref 0,.ref 1,.ref 2]) [.arr ((c7j n ss fl node need).2.map (V.int .i64)) .flat,.arr ((c7j n ss fl node need).1.map (V.int .i64)) .flat,.arr ((f0t fl (tmL n ss node)).map (V.int .i64)) .flat]:=by
 have hfl:=hd.hfl;obtain ⟨ts,hts⟩:∃ts,ts=tmL n ss node:=⟨_,rfl⟩;have htl:ts.length=n.toNat:=by rw [hts,d26]
 have htb:=d7z hd.hn hu hd.hss hd.hsl;rw [←hts] at htb;have hn14:=hd.hn;obtain ⟨rl,hrl⟩:∃rl,rl=c2f fl ts:=⟨_,rfl⟩;have hrn:rl.length≤fl.length:=by rw [hrl];exact d0c fl ts
 rw [c7j,←hts,←hrl];have hval:∀{y:Int},y∈rl→∃(k:Nat) (x:TA) (w:Nat),y=(k:Int)∧fl[k]? =some x∧x.2.2.1=(w:Int)∧w < ts.length:=by
  intro y hy;rw [hrl] at hy;obtain ⟨k,x,h1,h2,h3,_⟩:=d0j hy;have hap:=hd.hap _ (qlb h3);obtain ⟨w,hw⟩:=ql4 hap.2.1;exact ⟨k,x,w,h1,h3,hw,by rw [htl];omega⟩
 refine zcn [.tmp 8,.tmp 9,.tmp 10] [] Tryz.func170 Tryz.ntmps170 ⟨?_⟩;intro Q0 n0 r0;have T:=tq8 Ty.t3 Ty.t9 Ty.t24 Ty.t26 Ty.t27 Ty.t35 Ty.t53 Ty.t127;have F:=Fc.mk True.intro;refine yR [1,2,3,4] ⟨?_⟩;refine yRc [1,3,11,12] ((hrl ▸ hts ▸ dsReady_con n ss fl node hd hu:Con _ _ _ _ _ [.arr (rl.map (V.int .i64)) .flat,.arr ((f0t fl ts).map (V.int .i64)) .flat])) ⟨?_⟩;refine yRc [1,11,12,13] (c3x need (by omega)) ⟨?_⟩;refine yR [1,11,12,13,14] ⟨?_⟩;refine b0e ?_;intros;refine yR [1,12,13,14,26,27,28] ⟨?_⟩;refine b0i ?_;intros;refine b08 (fun i=>⟨[(1,sQ rQa fl),(12,.ref 1),(13,.ref 2),(14,.ref 3),(26,.ref 0),(27,.int .i64 rl.length),(28,.int .i64 (Nat.cast i))],[.arr (rl.map (V.int .i64)) .flat,.arr ((f0t fl ts).map (V.int .i64)) .flat,.arr ((c6f fl (rl.take i) need).1.map (V.int .i64)) .flat,.arr ((c6f fl (rl.take i) need).2.map (V.int .i64)) .flat],false,59,0⟩) (fun i=>i≤rl.length) (fun i=>rl.length - i) 0 ?_ ?_ ?_
 ·refine b0d [1,12,13,14,26,27,28] [4,5,6,7] ⟨?_⟩;rfl
 ·exact qle _
 ·rintro i hok8 Q8 n8 e8 r8;have hi1:i≤rl.length:=hok8;refine yR [1,12,13,14,26,27,28,29] ⟨?_⟩;refine b0e ?_;intros;refine b0a _ rfl ?_ ?_
  ·intro hc0;have hlt:i < rl.length:=by omega
   obtain ⟨y,hy⟩:∃y,rl[i]? =some y:=⟨_,qla hlt⟩;have hv:=hval (qlb hy);have hst:=f08 (fl:=fl) (need:=need) hy;obtain ⟨k,⟨x0,x1,x2,x3,x4⟩,w,rfl,hx,hvw,hvl⟩:=hv;simp only [] at hvw;subst hvw;obtain ⟨p,hp⟩:∃p,ts[w]? =some p:=⟨_,qla hvl⟩;have hkl:k < fl.length:=(qlc.1 hx).1;have ek:=f22 (ts:=ts) hx rfl hp;have hap:=hd.hap _ (qlb hx);simp only [] at hap;obtain ⟨kd,hkd⟩:=ql4 hap.1.1;subst hkd;have hpk:=c1t (fl:=fl) hn (rl.take i);have hll:=hpk.1;have hol:=hpk.2.2.1;have hlt2:(rl.take i).length≤i:=List.length_take_le ..;obtain ⟨v,hv⟩:∃v,(c6f fl (rl.take i) need).1[kd]? =some v:=⟨_,qla (by omega)⟩;have hvb:=hpk.2.1 v (qlb hv);have hpf:=f51 (s:=(c6f fl (rl.take i) need)) hx rfl hv;refine zn [1,12,13,14,26,27,28] ⟨?_⟩;refine b0e ?_;intros;refine b0i ?_;intros;have F:=fq5 (gdm hx) (gdm hy) (gdm hv) hll @b9w;refine yR [1,12,13,14,16,26,27,28] ⟨?_⟩;refine yR [1,12,13,14,16,26,27,28,40] ⟨?_⟩;refine b0a _ rfl ?_ ?_
   ·intro hc1;refine yR [1,12,13,14,16,26,27,28] ⟨?_⟩;refine yQ [1,12,13,14,26,27,28] ⟨?_⟩;refine yV ⟨?_⟩;refine n8 _ (i+1) ?_ ?_ ?_
    ·refine b0d [1,12,13,14,26,27,28] [0,1,2,5] ⟨?_⟩;rw [hst,hpf,if_pos hc1];simp only [aQ,fQ,List.map_append];try rfl
    ·exact hlt
    ·show _ < _;omega
   ·intro hc1;refine zn [1,12,13,14,26,27,28] ⟨?_⟩;refine yV ⟨?_⟩;refine n8 _ (i+1) ?_ ?_ ?_
    ·refine b0d [1,12,13,14,26,27,28] [0,1,2,3] ⟨?_⟩;rw [hst,hpf,if_neg (by omega)];rfl
    ·exact hlt
    ·show _ < _;omega
  ·intro hc0;have hend:i=rl.length:=by omega
   subst hend;refine zn [12,13,14] ⟨?_⟩;refine yR [8,9,10] ⟨?_⟩;refine zr ⟨?_⟩;exact d5f [3,2,1] rfl rfl (by decide) rfl (by simp) (by simp [Blk.kindIs]) rfl
def b93 (a:TA):TA:=(a.1,a.2.1,a.2.2.1,a.2.2.2.1,1)
def b3p (fl:List TA) (order:List Int):Nat→List TA
  | 0=>[]
  | m+1=>b3p fl order m++(match fl[m]? with | some a=>[if (m:Int)∈order then b93 a else a] | none=>[])
theorem b62 (fl:List TA) (order:List Int):∀m,m≤fl.length→(b3p fl order m).length=m
  | 0,_=>rfl
  | m+1,h=>by
    have:=b62 fl order m (by omega);rw [b3p,qla (by omega:m < fl.length)];simp [this]
theorem d94 {fl:List TA} {order:List Int} {i:Nat} {x:TA} (h:fl[i]? =some x) (ho:(i:Int)∈order):(b3p fl order i++fl.drop i).set i (b93 x)=b3p fl order (i+1)++fl.drop (i+1):=by
  have hi:i < fl.length:=(qlc.1 h).1;have hl:=b62 fl order i (by omega);rw [b1h h,List.set_append_right _ _ (by omega),hl,Nat.sub_self,List.set_cons_zero,b3p,h];simp [ho]
theorem f2n {fl:List TA} {order:List Int} {i:Nat} {x:TA} (h:fl[i]? =some x) (ho:¬(i:Int)∈order):b3p fl order i++fl.drop i=b3p fl order (i+1)++fl.drop (i+1):=by
  rw [b1h h,b3p,h];simp [ho]
theorem d8v {fl:List TA} {order:List Int} {i:Nat} {x:TA} (h:fl[i]? =some x):(b3p fl order i++fl.drop i)[i]? =some x:=by
  have hi:i < fl.length:=(qlc.1 h).1;have hl:=b62 fl order i (by omega);rw [qlq (by omega),hl,Nat.sub_self,b1h h];rfl
theorem d9r {fl:List TA} {order:List Int} {i:Nat} (h:i≤fl.length):(b3p fl order i++fl.drop i).length=fl.length:=by
  rw [qls,b62 fl order i h,List.length_drop];omega
theorem d1f (fl:List TA) (order:List Int):∀m,(c0j fl order m).length≤m
  | 0=>qlw _
  | m+1=>by
    have:=d1f fl order m;rw [c0j,qls];split
    · split<;>simp<;>omega
    · simp;omega
set_option maxRecDepth 8000 in
theorem d84 (fl:List TA) (order:List Int) (hl:fl.length≤1048576) (ho:order.length≤1048576):Con Tryz.prog 171 [sQ rQa fl,.sl (order.map (V.int .i64))] [] (.tup [.ref 0,.ref 1]) [aQ rQa (b3p fl order fl.length),.arr ((c0j fl order fl.length).map V.str) .flat]:=by
 have hns:(fl.map rQa).all V.noSl=true:=by rw [List.all_map,qlf];intro a _;rfl
 refine zcn [.tmp 4,.tmp 5] [] Tryz.func171 Tryz.ntmps171 ⟨?_⟩;intro Q0 n0 r0;have T:=tq7 Ty.t3 Ty.t4 Ty.t9 Ty.t27 Ty.t32 Ty.t35 Ty.t53;have F:=Fc.mk True.intro;have F:=Fc.mk hns;refine yR [0,1] ⟨?_⟩;refine yR [0,1,6] ⟨?_⟩;refine yR [0,1,6,7] ⟨?_⟩;refine b0e ?_;intros;refine yR [1,6,7,13,14,15] ⟨?_⟩;refine b0i ?_;intros;refine b08 (fun i=>⟨[(1,.sl (order.map (V.int .i64))),(6,.ref 0),(7,.ref 1),(13,sQ rQa fl),(14,.int .i64 fl.length),(15,.int .i64 (Nat.cast i))],[aQ rQa (b3p fl order i++fl.drop i),.arr ((c0j fl order i).map V.str) .flat],false,36,0⟩) (fun i=>i≤fl.length) (fun i=>fl.length - i) 0 ?_ ?_ ?_
 ·refine b0d [1,6,7,13,14,15] [3,4] ⟨?_⟩;simp [b3p,c0j]
 ·exact qle _
 ·rintro i hok7 Q7 n7 e7 r7;have hi1:i≤fl.length:=hok7;refine yR [1,6,7,13,14,15,16] ⟨?_⟩;refine b0e ?_;intros;refine b0a _ rfl ?_ ?_
  ·intro hc0;have hlt:i < fl.length:=by omega
   obtain ⟨⟨x0,x1,x2,x3,x4⟩,hx⟩:∃x:TA,fl[i]? =some x:=⟨fl[i]'(by omega),qla (by omega)⟩;have hst:=d3b (order:=order) hx;have hsl:=d1f fl order i;have hcg:=d8v (order:=order) hx;have hca:=d9r (fl:=fl) (order:=order) hi1;have hsm:((b3p fl order i++fl.drop i).map rQa).set i (V.agg [V.str x0,V.int .i64 x1,V.int .i64 x2,V.int .i64 x3,V.int .i64 1])=((b3p fl order i++fl.drop i).set i (b93 (x0,x1,x2,x3,x4))).map rQa:=by have q:=qmn (f:=rQa) (l:=(b3p fl order i++fl.drop i)) (i:=i) (a:=b93 (x0,x1,x2,x3,x4));exact q.symm
   refine zn [1,6,7,13,14,15] ⟨?_⟩;refine b0e ?_;intros;refine b0i ?_;intros;refine b1l [1,6,7,8,9,13,14,15] ?_;intro K13 k13;have F:=fq5 hns (gdm hx) (gdm hcg) hca hsm;refine b15 ⟨?_⟩;refine f7z ⟨?_⟩;refine d7q ⟨?_⟩;refine b2l ⟨?_⟩;refine b6g ?_;intro K k;simp only [zE,zS,zJ,zL,zO,zN,b0w,b0s,b0k,Nat.reduceEqDiff,reduceIte,Nat.reduceLT,implies_true,forall_const,reduceCtorEq,V.ofValue,V.ofScalar,V.un,V.gd,b07,aop,b8n,b2c,V.isVal,V.cells,b4o,b2t,V.noSl,V.noRef,gt_iff_lt,Nat.reduceAdd,Nat.reduceLeDiff,Nat.reduceMul,c0d,b1y,b2z,b1n,Blk.row,b4l,Nat.reduceBEq,c9z,Tryz.underlying3,Ty.c3,Ty.a3,Tryz.underlying9,Ty.c9,Ty.a9,Tryz.underlying53,Ty.c53,Ty.a53,hns,b4a hx,b4a hcg,hca,hsm];repeat (refine ai (by first | omega | (intros;omega) | (intros;simp_all;done) | (simp [List.length_set];omega)) ?_)
   refine k _ ?_;clear k K;refine k13 _ ?_;refine zk ⟨?_⟩;refine yRc [1,6,7,8,9,13,14,15,22] (d4t order (i:Int) ho) ⟨?_⟩;refine b0a _ rfl ?_ ?_
   ·intro hc1;have hcy:=d94 hx hc1;refine b1l [1,6,7,8,9,13,14,15] ?_;intro K16 k16;refine b5w ⟨?_⟩;refine b6g ?_;intro K k;simp only [zE,zS,zJ,zL,zO,zN,b0w,b0s,b0k,Nat.reduceEqDiff,reduceIte,Nat.reduceLT,implies_true,forall_const,reduceCtorEq,V.ofValue,V.ofScalar,V.un,V.gd,b07,aop,b8n,b2c,V.isVal,V.cells,b4o,b2t,V.noSl,V.noRef,gt_iff_lt,Nat.reduceAdd,Nat.reduceLeDiff,Nat.reduceMul,c0d,b1y,b2z,b1n,Blk.row,b4l,Nat.reduceBEq,c9z,Tryz.underlying3,Ty.c3,Ty.a3,hns,b4a hx,b4a hcg,hca,hsm];repeat (refine ai (by first | omega | (intros;omega) | (intros;simp_all;done) | (simp [List.length_set];omega)) ?_)
    refine k _ ?_;clear k K;refine k16 _ ?_;refine zk ⟨?_⟩;refine b1l [1,6,7,9,13,14,15] ?_;intro K17 k17;refine zq5 ⟨?_⟩;refine f4b ⟨?_⟩;refine b78 ⟨?_⟩;refine b6g ?_;intro K k;simp only [zE,zS,zJ,zL,zO,zN,b0w,b0s,b0k,Nat.reduceEqDiff,reduceIte,Nat.reduceLT,implies_true,forall_const,reduceCtorEq,V.ofValue,V.ofScalar,V.un,V.gd,b07,aop,b8n,b2c,V.isVal,V.cells,b4o,b2t,V.noSl,V.noRef,gt_iff_lt,Nat.reduceAdd,Nat.reduceLeDiff,Nat.reduceMul,c0d,b1y,b2z,b1n,Blk.row,b4l,Nat.reduceBEq,c9z,Tryz.underlying3,Ty.c3,Ty.a3,Tryz.underlying9,Ty.c9,Ty.a9,Tryz.underlying53,Ty.c53,Ty.a53,hns,b4a hx,b4a hcg,hca,hsm];repeat (refine ai (by first | omega | (intros;omega) | (intros;simp_all;done) | (simp [List.length_set];omega)) ?_)
    refine k _ ?_;clear k K;refine k17 _ ?_;refine zk ⟨?_⟩;refine yQ [1,6,7,13,14,15] ⟨?_⟩;refine yV ⟨?_⟩;refine n7 _ (i+1) ?_ ?_ ?_
    ·refine b0d [1,6,7,13,14,15] [0,4] ⟨?_⟩;rw [hcy,hst,if_pos hc1];simp only [aQ,fQ,List.map_append];try rfl
    ·exact hlt
    ·show _ < _;omega
   ·intro hc1;have hcn:=f2n hx hc1;refine zn [1,6,7,13,14,15] ⟨?_⟩;refine yV ⟨?_⟩;refine n7 _ (i+1) ?_ ?_ ?_
    ·refine b0d [1,6,7,13,14,15] [0,1] ⟨?_⟩;rw [hcn,hst,if_neg hc1];rfl
    ·exact hlt
    ·show _ < _;omega
  ·intro hc0;have hend:i=fl.length:=by omega
   subst hend;refine zn [6,7] ⟨?_⟩;refine yR [4,5] ⟨?_⟩;refine zr ⟨?_⟩;exact d5f [0,1] rfl rfl (by decide) rfl (by simp) (by simp [Blk.kindIs]) rfl
theorem b7b (l:List TI) (g:Nat) (caps:List V) (p:TI→Bool) (hl:l.length≤1048576) (hc:Caps caps) (hg:∀x0 x1 x2 x3,(x0,x1,x2,x3)∈l→Con Tryz.prog g (V.agg [V.int .i64 x0,V.int .i64 x1,V.bool x2,V.sl (x3.map V.str)]::caps) [] (.bool (p (x0,x1,x2,x3))) []):Con Tryz.prog 119 [sQ rQb l,.fn g caps] [] (.int .i64 (b3b p 0 l)) []:=by
 refine zcn [.tmp 4] [] Tryz.func119 Tryz.ntmps119 ⟨?_⟩;intro Q0 n0 r0;have T:=tq6 Ty.t3 Ty.t4 Ty.t9 Ty.t28 Ty.t32 Ty.t55;have F:=Fc.mk True.intro;refine yR [0,1] ⟨?_⟩;refine b0e ?_;intros;refine yR [0,1,7,8] ⟨?_⟩;refine b0i ?_;intros;refine b08 (fun i=>⟨[(0,sQ rQb l),(1,.fn g caps),(7,.int .i64 l.length),(8,.int .i64 (Nat.cast i))],[],false,19,0⟩) (fun i=>i≤l.length∧b3b p i (l.drop i)=b3b p 0 l) (fun i=>l.length - i) 0 ?_ ?_ ?_
 ·refine b2a [0,1,7,8] ?_;simp only [b02,b0n,b0l,b0j,b0u,Nat.reduceEqDiff,reduceIte];rfl
 ·exact ⟨qle _,rfl⟩
 ·rintro i hok5 Q5 n5 e5 r5;obtain ⟨hi1,hR⟩:=hok5;refine yR [0,1,7,8,9] ⟨?_⟩;refine b0e ?_;intros;refine b0a _ rfl ?_ ?_
  ·intro hc0;have hlt:i < l.length:=by omega
   obtain ⟨⟨x0,x1,x2,x3⟩,hx⟩:∃x:TI,l[i]? =some x:=⟨l[i]'(by omega),qla (by omega)⟩;have hst:=b50 (p:=p) hx;refine zn [0,1,7,8] ⟨?_⟩;refine b0e ?_;intros;refine b0i ?_;intros;have F:=Fc.mk (gdm hx);refine yR [0,1,5,7,8] ⟨?_⟩;refine b1l [0,1,5,7,8,16] ?_;intro K12 k12;refine zq5 ⟨?_⟩;refine b15 ⟨?_⟩;refine f7z ⟨?_⟩;refine zcc (hg x0 x1 x2 x3 (qlb hx)) ⟨?_⟩;refine k12 _ ?_;refine zk ⟨?_⟩;refine b0a _ rfl ?_ ?_
   ·intro hc1;refine yR [4] ⟨?_⟩;refine zr ⟨?_⟩;exact b0g rfl (by rw [←hR,hst,if_pos hc1]) (.inl rfl)
   ·intro hc1;refine zn [0,1,7,8] ⟨?_⟩;refine yV ⟨?_⟩;refine n5 _ (i+1) ?_ ?_ ?_
    ·refine b8a [0,1,7,8] [] ⟨?_⟩;rfl
    ·exact ⟨by omega,by rw [←hR,hst,if_neg (by simp [hc1])]⟩
    ·show _ < _;omega
  ·intro hc0;refine zn [] ⟨?_⟩;refine yR [4] ⟨?_⟩;refine zr ⟨?_⟩;exact b0g rfl (by rw [←hR,b7h (by omega)]) (.inl rfl)
end Go.Proofs.YtmbbjhopngejaaaGreatDoor
