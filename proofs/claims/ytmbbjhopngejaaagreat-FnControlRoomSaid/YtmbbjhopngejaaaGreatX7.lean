/- What functions compute. No condition. -/
import Derived.Test.YtmbbjhopngejaaaGreatX6
set_option linter.all false
open Go.Vm.V renaming int → Za, str → Zc, ofScalar → Zd, ofValue → Ze, bool → Zf
open Nat renaming cast → Zb
namespace Go.Proofs.YtmbbjhopngejaaaGreat
open Go Go.Vm Tryz
set_option maxHeartbeats 8000000
theorem d83 {fl:List TA} {s:List Int×List Int} {k kd:Nat} {x:TA} {v:Int} (hx:fl[k]? =some x) (hk:x.2.1=(kd:Int)) (hv:s.1[kd]? =some v):b6r fl s (k:Int)=if 0 < v then (s.1.set kd (v - 1),s.2++[(k:Int)]) else s:=by
  rw [b6r,qlh,hx];simp only [hk,Int.toNat_natCast,List.getD_eq_getElem?_getD,hv,Option.getD_some]
def c1q (n:Int) (ss:List TS) (fl:List TA) (node:Int) (need:List Int):List Int×List Int:=b8y fl (b7m fl (tmL n ss node)) need
set_option maxRecDepth 8000 in
theorem d1l (n:Int) (ss:List TS) (fl:List TA) (node:Int) (need:List Int) (hd:DsFacts n ss fl) (hu:0≤node∧node < n) (hn:need.length=4∧∀x∈need,0≤x∧x≤6):Con prog 97 [.pv [tQ n ss] 0 0,sQ rQa fl,.int .i64 node,.sl (need.map (Za .i64))] [] (.ref 0) [.arr ((c1q n ss fl node need).2.map (Za .i64)) .flat]:=by
 have hfl:=hd.hfl;obtain ⟨ts,hts⟩:∃ts,ts=tmL n ss node:=⟨_,rfl⟩;have htl:ts.length=n.toNat:=by rw [hts,c49]
 have htb:=c8a hd.hn hu hd.hss hd.hsl;rw [←hts] at htb;have hn14:=hd.hn;obtain ⟨rl,hrl⟩:∃rl,rl=b7m fl ts:=⟨_,rfl⟩;have hrn:rl.length≤fl.length:=by rw [hrl];exact c5s fl ts
 rw [c1q,←hts,←hrl];have hval:∀{y:Int},y∈rl→∃(k:Nat) (x:TA) (w:Nat),y=(k:Int)∧fl[k]? =some x∧x.2.2.1=(w:Int)∧w < ts.length:=by
  intro y hy;rw [hrl] at hy;obtain ⟨k,x,h1,h2,h3,_⟩:=c2s hy;have hap:=hd.hap _ (qlb h3);obtain ⟨w,hw⟩:=qlw hap.2.1;exact ⟨k,x,w,h1,h3,hw,by rw [htl];omega⟩
 apply zcn [.tmp 8] [] func97 ntmps97;intro _ _ _;have T:=tq9 Y3 Y9 Y24 Y26 Y28 Y41 Y69 Y98 b7w;have F:=Fc.mk True.intro;apply yR [0,1,2,3];apply yRc [0,1,2,9] (b4g need (by omega));apply yR [0,1,2,9,10];apply b0e;intros;apply yRc [1,9,10,18,19,20] ((hrl ▸ hts ▸ readyOrder_con n ss fl node hd hu:Con _ _ _ _ _ [.arr (rl.map (Za .i64)) .flat]));apply b0g;intros;apply b05 (fun i=>⟨[(1,sQ rQa fl),(9,.ref 0),(10,.ref 1),(18,.ref 2),(19,.int .i64 rl.length),(20,.int .i64 (Zb i))],[.arr ((b8y fl (rl.take i) need).1.map (Za .i64)) .flat,.arr ((b8y fl (rl.take i) need).2.map (Za .i64)) .flat,.arr (rl.map (Za .i64)) .flat],false,49,0⟩) (fun i=>i≤rl.length) (fun i=>rl.length - i) 0
 ·apply b0d [1,9,10,18,19,20] [1,2,3];rfl
 ·exact qle _
 ·rintro i hok7 Q7 n7 e7 r7;have hi1:i≤rl.length:=hok7;apply yR [1,9,10,18,19,20,21];apply b0e;intros;apply b0c _ rfl
  ·intro hc0;have hlt:i < rl.length:=by omega
   obtain ⟨y,hy⟩:∃y,rl[i]? =some y:=⟨_,qla hlt⟩;have hv:=hval (qlb hy);have hst:=d3x (fl:=fl) (need:=need) hy;obtain ⟨k,⟨x0,x1,x2,x3,x4⟩,w,rfl,hx,hvw,hvl⟩:=hv;simp only [] at hvw;subst hvw;obtain ⟨p,hp⟩:∃p,ts[w]? =some p:=⟨_,qla hvl⟩;have hkl:k < fl.length:=(qlc.1 hx).1;have ek:=c9u (ts:=ts) hx rfl hp;have hap:=hd.hap _ (qlb hx);simp only [] at hap;obtain ⟨kd,hkd⟩:=qlw hap.1.1;subst hkd;have hpk:=b8c (fl:=fl) hn (rl.take i);have hll:=hpk.1;have hol:=hpk.2.2.1;have hlt2:(rl.take i).length≤i:=List.length_take_le ..;obtain ⟨v,hv⟩:∃v,(b8y fl (rl.take i) need).1[kd]? =some v:=⟨_,qla (by omega)⟩;have hvb:=hpk.2.1 v (qlb hv);have hpf:=d83 (s:=(b8y fl (rl.take i) need)) hx rfl hv;apply zn [1,9,10,18,19,20];apply b0e;intros;apply b0g;intros;have F:=fq5 (gdm hx) (gdm hy) (gdm hv) hll @b47;apply yR [1,9,10,12,18,19,20];apply yR [1,9,10,12,18,19,20,32];apply b0c _ rfl
   ·intro hc1;apply yR [1,9,10,12,18,19,20];apply yQ [1,9,10,18,19,20];apply (yV);apply n7 _ (i+1)
    ·apply b0d [1,9,10,18,19,20] [0,4,2];rw [hst,hpf,if_pos hc1];simp only [aQ,fQ,List.map_append];try rfl
    ·exact hlt
    ·show _ < _;omega
   ·intro hc1;apply zn [1,9,10,18,19,20];apply (yV);apply n7 _ (i+1)
    ·apply b0d [1,9,10,18,19,20] [0,1,2];rw [hst,hpf,if_neg (by omega)];rfl
    ·exact hlt
    ·show _ < _;omega
  ·intro hc0;have hend:i=rl.length:=by omega
   subst hend;apply zn [10];apply yR [8];apply (zr);exact b1q rfl rfl (by rw [ql9])
set_option maxRecDepth 8000 in
theorem f1l (n:Int) (ss:List TS) (fl:List TA) (node:Int) (need:List Int) (hd:DsFacts n ss fl) (hu:0≤node∧node < n) (hn:need.length=4∧∀x∈need,0≤x∧x≤6):Con prog 109 [tQ n ss,sQ rQa fl,.int .i64 node,.sl (need.map (Za .i64))] [] (.tup [.ref 0,.ref 1,.ref 2]) [.arr ((c1q n ss fl node need).2.map (Za .i64)) .flat,.arr ((c1q n ss fl node need).1.map (Za .i64)) .flat,.arr ((g3h fl (tmL n ss node)).map (Za .i64)) .flat]:=by
 have hfl:=hd.hfl;obtain ⟨ts,hts⟩:∃ts,ts=tmL n ss node:=⟨_,rfl⟩;have htl:ts.length=n.toNat:=by rw [hts,c49]
 have htb:=c8a hd.hn hu hd.hss hd.hsl;rw [←hts] at htb;have hn14:=hd.hn;obtain ⟨rl,hrl⟩:∃rl,rl=b7m fl ts:=⟨_,rfl⟩;have hrn:rl.length≤fl.length:=by rw [hrl];exact c5s fl ts
 rw [c1q,←hts,←hrl];have hval:∀{y:Int},y∈rl→∃(k:Nat) (x:TA) (w:Nat),y=(k:Int)∧fl[k]? =some x∧x.2.2.1=(w:Int)∧w < ts.length:=by
  intro y hy;rw [hrl] at hy;obtain ⟨k,x,h1,h2,h3,_⟩:=c2s hy;have hap:=hd.hap _ (qlb h3);obtain ⟨w,hw⟩:=qlw hap.2.1;exact ⟨k,x,w,h1,h3,hw,by rw [htl];omega⟩
 apply zcn [.tmp 8,.tmp 9,.tmp 10] [] func109 ntmps109;intro _ _ _;have T:=tq8 Y3 Y9 Y24 Y26 Y28 Y41 Y98 b7w;have F:=Fc.mk True.intro;apply yR [1,2,3,4];apply yRc [1,3,11,12] ((hrl ▸ hts ▸ dsReady_con n ss fl node hd hu:Con _ _ _ _ _ [.arr (rl.map (Za .i64)) .flat,.arr ((g3h fl ts).map (Za .i64)) .flat]));apply yRc [1,11,12,13] (c5m need (by omega));apply yR [1,11,12,13,14];apply b0e;intros;apply yR [1,12,13,14,26,27,28];apply b0g;intros;apply b05 (fun i=>⟨[(1,sQ rQa fl),(12,.ref 1),(13,.ref 2),(14,.ref 3),(26,.ref 0),(27,.int .i64 rl.length),(28,.int .i64 (Zb i))],[.arr (rl.map (Za .i64)) .flat,.arr ((g3h fl ts).map (Za .i64)) .flat,.arr ((b8y fl (rl.take i) need).1.map (Za .i64)) .flat,.arr ((b8y fl (rl.take i) need).2.map (Za .i64)) .flat],false,59,0⟩) (fun i=>i≤rl.length) (fun i=>rl.length - i) 0
 ·apply b0d [1,12,13,14,26,27,28] [4,5,6,7];rfl
 ·exact qle _
 ·rintro i hok8 Q8 n8 e8 r8;have hi1:i≤rl.length:=hok8;apply yR [1,12,13,14,26,27,28,29];apply b0e;intros;apply b0c _ rfl
  ·intro hc0;have hlt:i < rl.length:=by omega
   obtain ⟨y,hy⟩:∃y,rl[i]? =some y:=⟨_,qla hlt⟩;have hv:=hval (qlb hy);have hst:=d3x (fl:=fl) (need:=need) hy;obtain ⟨k,⟨x0,x1,x2,x3,x4⟩,w,rfl,hx,hvw,hvl⟩:=hv;simp only [] at hvw;subst hvw;obtain ⟨p,hp⟩:∃p,ts[w]? =some p:=⟨_,qla hvl⟩;have hkl:k < fl.length:=(qlc.1 hx).1;have ek:=c9u (ts:=ts) hx rfl hp;have hap:=hd.hap _ (qlb hx);simp only [] at hap;obtain ⟨kd,hkd⟩:=qlw hap.1.1;subst hkd;have hpk:=b8c (fl:=fl) hn (rl.take i);have hll:=hpk.1;have hol:=hpk.2.2.1;have hlt2:(rl.take i).length≤i:=List.length_take_le ..;obtain ⟨v,hv⟩:∃v,(b8y fl (rl.take i) need).1[kd]? =some v:=⟨_,qla (by omega)⟩;have hvb:=hpk.2.1 v (qlb hv);have hpf:=d83 (s:=(b8y fl (rl.take i) need)) hx rfl hv;apply zn [1,12,13,14,26,27,28];apply b0e;intros;apply b0g;intros;have F:=fq5 (gdm hx) (gdm hy) (gdm hv) hll @b47;apply yR [1,12,13,14,16,26,27,28];apply yR [1,12,13,14,16,26,27,28,40];apply b0c _ rfl
   ·intro hc1;apply yR [1,12,13,14,16,26,27,28];apply yQ [1,12,13,14,26,27,28];apply (yV);apply n8 _ (i+1)
    ·apply b0d [1,12,13,14,26,27,28] [0,1,2,5];rw [hst,hpf,if_pos hc1];simp only [aQ,fQ,List.map_append];try rfl
    ·exact hlt
    ·show _ < _;omega
   ·intro hc1;apply zn [1,12,13,14,26,27,28];apply (yV);apply n8 _ (i+1)
    ·apply b0d [1,12,13,14,26,27,28] [0,1,2,3];rw [hst,hpf,if_neg (by omega)];rfl
    ·exact hlt
    ·show _ < _;omega
  ·intro hc0;have hend:i=rl.length:=by omega
   subst hend;apply zn [12,13,14];apply yR [8,9,10];apply (zr);exact d69 [3,2,1] rfl rfl (by decide) rfl (by simp) (by simp [Blk.kindIs]) rfl
def b4m (a:TA):TA:=(a.1,a.2.1,a.2.2.1,a.2.2.2.1,1)
def b20 (fl:List TA) (order:List Int):Nat→List TA
  | 0=>[]
  | m+1=>b20 fl order m++(match fl[m]? with | some a=>[if (m:Int)∈order then b4m a else a] | none=>[])
theorem b6y (fl:List TA) (order:List Int):∀m,m≤fl.length→(b20 fl order m).length=m
  | 0,_=>rfl
  | m+1,h=>by
    have:=b6y fl order m (by omega);rw [b20,qla (by omega:m < fl.length)];simp [this]
section
variable {fl:List TA} {order:List Int} {i:Nat} {x:TA} (h:fl[i]? =some x)
include h
theorem d11 (ho:(i:Int)∈order):(b20 fl order i++fl.drop i).set i (b4m x)=b20 fl order (i+1)++fl.drop (i+1):=by
  have hi:i < fl.length:=(qlc.1 h).1;have hl:=b6y fl order i (by omega);rw [b1p h,qmn _ _ (by omega),hl,qmz,List.set_cons_zero,b20,h];simp [ho]
theorem d58 (ho:¬(i:Int)∈order):b20 fl order i++fl.drop i=b20 fl order (i+1)++fl.drop (i+1):=by
  rw [b1p h,b20,h];simp [ho]
theorem c58:(b20 fl order i++fl.drop i)[i]? =some x:=by
  have hi:i < fl.length:=(qlc.1 h).1;have hl:=b6y fl order i (by omega);rw [qli (by omega),hl,qmz,b1p h];rfl
end
theorem g3d {fl:List TA} {order:List Int} {i:Nat} (h:i≤fl.length):(b20 fl order i++fl.drop i).length=fl.length:=by
  rw [qln,b6y fl order i h,qmj];omega
theorem d24 (fl:List TA) (order:List Int):∀m,(b8r fl order m).length≤m
  | 0=>qly _
  | m+1=>by
    have:=d24 fl order m;rw [b8r,qln];split
    · split<;>simp<;>omega
    · simp;omega
set_option maxRecDepth 8000 in
theorem f1u (fl:List TA) (order:List Int) (hl:fl.length≤1048576) (ho:order.length≤1048576):Con prog 110 [sQ rQa fl,.sl (order.map (Za .i64))] [] (.tup [.ref 0,.ref 1]) [aQ rQa (b20 fl order fl.length),.arr ((b8r fl order fl.length).map Zc) .flat]:=by
 have hns:(fl.map rQa).all V.noSl=true:=by rw [qmp,qlk];intro a _;rfl
 apply zcn [.tmp 4,.tmp 5] [] func110 ntmps110;intro _ _ _;have T:=tq7 Y3 Y4 Y9 Y28 Y41 Y48 Y98;have F:=Fc.mk True.intro;have F:=Fc.mk hns;apply yR [0,1];apply yR [0,1,6];apply yR [0,1,6,7];apply b0e;intros;apply yR [1,6,7,13,14,15];apply b0g;intros;apply b05 (fun i=>⟨[(1,.sl (order.map (Za .i64))),(6,.ref 0),(7,.ref 1),(13,sQ rQa fl),(14,.int .i64 fl.length),(15,.int .i64 (Zb i))],[aQ rQa (b20 fl order i++fl.drop i),.arr ((b8r fl order i).map Zc) .flat],false,36,0⟩) (fun i=>i≤fl.length) (fun i=>fl.length - i) 0
 ·apply b0d [1,6,7,13,14,15] [3,4];simp [b20,b8r]
 ·exact qle _
 ·rintro i hok7 Q7 n7 e7 r7;have hi1:i≤fl.length:=hok7;apply yR [1,6,7,13,14,15,16];apply b0e;intros;apply b0c _ rfl
  ·intro hc0;have hlt:i < fl.length:=by omega
   obtain ⟨⟨x0,x1,x2,x3,x4⟩,hx⟩:∃x:TA,fl[i]? =some x:=⟨fl[i]'(by omega),qla (by omega)⟩;have hst:=c9i (order:=order) hx;have hsl:=d24 fl order i;have hcg:=c58 (order:=order) hx;have hca:=g3d (fl:=fl) (order:=order) hi1;have hsm:((b20 fl order i++fl.drop i).map rQa).set i (V.agg [Zc x0,Za .i64 x1,Za .i64 x2,Za .i64 x3,Za .i64 1])=((b20 fl order i++fl.drop i).set i (b4m (x0,x1,x2,x3,x4))).map rQa:=by have q:=qmx (f:=rQa) (l:=(b20 fl order i++fl.drop i)) (i:=i) (a:=b4m (x0,x1,x2,x3,x4));exact q.symm
   apply zn [1,6,7,13,14,15];apply b0e;intros;apply b0g;intros;apply b1l [1,6,7,8,9,13,14,15];intro _ k13;have F:=fq5 hns (gdm hx) (gdm hcg) hca hsm;apply (zU);apply (f9c);apply (d5x);apply (b2h);apply b5y;intro K k;simp only [zE,zS,zJ,zL,zO,zN,b0x,b0s,b0j,Nat.reduceEqDiff,reduceIte,Nat.reduceLT,implies_true,forall_const,reduceCtorEq,Ze,Zd,V.un,V.gd,b1c,aop,b7r,b2e,V.isVal,V.cells,b4h,b2m,V.noSl,V.noRef,gt_iff_lt,Nat.reduceAdd,Nat.reduceLeDiff,Nat.reduceMul,b9k,b1v,b2x,b1k,Blk.row,b4d,Nat.reduceBEq,c25,underlying3,Ty.c3,Ty.a3,underlying9,Ty.c9,Ty.a9,underlying98,Ty.c98,Ty.a98,hns,b3u hx,b3u hcg,hca,hsm];repeat (refine ai (by first | omega | (intros;omega) | (intros;simp_all;done) | (simp [List.length_set];omega)) ?_)
   apply k _;clear k K;apply k13 _;apply (zk);apply yRc [1,6,7,8,9,13,14,15,22] (d54 order (i:Int) ho);apply b0c _ rfl
   ·intro hc1;have hcy:=d11 hx hc1;apply b1l [1,6,7,8,9,13,14,15];intro _ k16;apply (zU);apply b5y;intro K k;simp only [zE,zS,zJ,zL,zO,zN,b0x,b0s,b0j,Nat.reduceEqDiff,reduceIte,Nat.reduceLT,implies_true,forall_const,reduceCtorEq,Ze,Zd,V.un,V.gd,b1c,aop,b7r,b2e,V.isVal,V.cells,b4h,b2m,V.noSl,V.noRef,gt_iff_lt,Nat.reduceAdd,Nat.reduceLeDiff,Nat.reduceMul,b9k,b1v,b2x,b1k,Blk.row,b4d,Nat.reduceBEq,c25,underlying3,Ty.c3,Ty.a3,hns,b3u hx,b3u hcg,hca,hsm];repeat (refine ai (by first | omega | (intros;omega) | (intros;simp_all;done) | (simp [List.length_set];omega)) ?_)
    apply k _;clear k K;apply k16 _;apply (zk);apply b1l [1,6,7,9,13,14,15];intro _ k17;apply (zq2);apply (d5m);apply (b8e);apply b5y;intro K k;simp only [zE,zS,zJ,zL,zO,zN,b0x,b0s,b0j,Nat.reduceEqDiff,reduceIte,Nat.reduceLT,implies_true,forall_const,reduceCtorEq,Ze,Zd,V.un,V.gd,b1c,aop,b7r,b2e,V.isVal,V.cells,b4h,b2m,V.noSl,V.noRef,gt_iff_lt,Nat.reduceAdd,Nat.reduceLeDiff,Nat.reduceMul,b9k,b1v,b2x,b1k,Blk.row,b4d,Nat.reduceBEq,c25,underlying3,Ty.c3,Ty.a3,underlying9,Ty.c9,Ty.a9,underlying98,Ty.c98,Ty.a98,hns,b3u hx,b3u hcg,hca,hsm];repeat (refine ai (by first | omega | (intros;omega) | (intros;simp_all;done) | (simp [List.length_set];omega)) ?_)
    apply k _;clear k K;apply k17 _;apply (zk);apply yQ [1,6,7,13,14,15];apply (yV);apply n7 _ (i+1)
    ·apply b0d [1,6,7,13,14,15] [0,4];rw [hcy,hst,if_pos hc1];simp only [aQ,fQ,List.map_append];try rfl
    ·exact hlt
    ·show _ < _;omega
   ·intro hc1;have hcn:=d58 hx hc1;apply zn [1,6,7,13,14,15];apply (yV);apply n7 _ (i+1)
    ·apply b0d [1,6,7,13,14,15] [0,1];rw [hcn,hst,if_neg hc1];rfl
    ·exact hlt
    ·show _ < _;omega
  ·intro hc0;have hend:i=fl.length:=by omega
   subst hend;apply zn [6,7];apply yR [4,5];apply (zr);exact d69 [0,1] rfl rfl (by decide) rfl (by simp) (by simp [Blk.kindIs]) rfl
theorem b7l (l:List TI) (g:Nat) (caps:List V) (p:TI→Bool) (hl:l.length≤1048576) (hc:Caps caps) (hg:∀x0 x1 x2 x3,(x0,x1,x2,x3)∈l→Con prog g (V.agg [Za .i64 x0,Za .i64 x1,Zf x2,V.sl (x3.map Zc)]::caps) [] (.bool (p (x0,x1,x2,x3))) []):Con prog 115 [sQ rQb l,.fn g caps] [] (.int .i64 (b2r p 0 l)) []:=by
 apply zcn [.tmp 4] [] func115 ntmps115;intro _ _ _;have T:=tq6 Y3 Y4 Y9 Y29 Y48 Y96;have F:=Fc.mk True.intro;apply yR [0,1];apply b0e;intros;apply yR [0,1,7,8];apply b0g;intros;apply b05 (fun i=>⟨[(0,sQ rQb l),(1,.fn g caps),(7,.int .i64 l.length),(8,.int .i64 (Zb i))],[],false,19,0⟩) (fun i=>i≤l.length∧b2r p i (l.drop i)=b2r p 0 l) (fun i=>l.length - i) 0
 ·refine b18 [0,1,7,8] ?_;simp only [b0r,b0k,b0i,b0f,b0n,Nat.reduceEqDiff,reduceIte];rfl
 ·exact ⟨qle _,rfl⟩
 ·rintro i hok5 Q5 n5 e5 r5;obtain ⟨hi1,hR⟩:=hok5;apply yR [0,1,7,8,9];apply b0e;intros;apply b0c _ rfl
  ·intro hc0;have hlt:i < l.length:=by omega
   obtain ⟨⟨x0,x1,x2,x3⟩,hx⟩:∃x:TI,l[i]? =some x:=⟨l[i]'(by omega),qla (by omega)⟩;have hst:=b5j (p:=p) hx;apply zn [0,1,7,8];apply b0e;intros;apply b0g;intros;have F:=Fc.mk (gdm hx);apply yR [0,1,5,7,8];apply b1l [0,1,5,7,8,16];intro _ k12;apply (zq8);apply (f9c);apply zcc (hg x0 x1 x2 x3 (qlb hx));apply k12 _;apply (zk);apply b0c _ rfl
   ·intro hc1;apply yR [4];apply (zr);exact b0h rfl (by rw [←hR,hst,if_pos hc1]) (.inl rfl)
   ·intro hc1;apply zn [0,1,7,8];apply (yV);apply n5 _ (i+1)
    ·apply b4e [0,1,7,8] [];rfl
    ·exact ⟨by omega,by rw [←hR,hst,if_neg (by simp [hc1])]⟩
    ·show _ < _;omega
  ·intro hc0;apply zn [];apply yR [4];apply (zr);exact b0h rfl (by rw [←hR,b6g (by omega)]) (.inl rfl)
def c21 (x:TI):Bool:=(decide (1≤x.1) && decide (x.1≤999)) && (decide (0≤x.2.1) && decide (x.2.1≤13)) && !decide (12 < (x.2.2.2.length:Int)) && !(x.2.2.1 && decide (0 < (x.2.2.2.length:Int))) && b11 b6a b2v x.2.2.2 0
def b89 (pre:List TI) (x:TI):Bool:=x.2.2.2.any fun s=>pre.any fun y=>inS s y.2.2.2
def c3a (l:List TI) (i:Nat):Bool:=match l[i]? with
  | none=>true
  | some x=>c21 x && (decide (i=0) || match l[i - 1]? with | some y=>decide (y.1 < x.1) | none=>true) && !b89 (l.take i) x
def c4a (l:List TI):Bool:=(List.range l.length).all (c3a l) && decide ((l.length:Int)≤8)
theorem b86 {l:List TI} {i:Nat} (hi:i < l.length) (h:c3a l i=false):c4a l=false:=by
  have:(List.range l.length).all (c3a l)=false:=by
    rw [List.all_eq_false];exact ⟨i,qmc.2 hi,by rw [h];simp⟩
  rw [c4a,this];rfl
theorem d4f {l:List TI} {i:Nat} (hi:l.length≤i) (h:∀j,j < i→c3a l j=true):c4a l=decide ((l.length:Int)≤8):=by
  have:(List.range l.length).all (c3a l)=true:=by
    rw [qlk];intro j hj;exact h j (qm1 (qmc.1 hj) hi)
  rw [c4a,this];rfl
theorem b7f {P:Nat→Bool} {i:Nat} (h:∀j,j < i→P j=true) (hi:P i=true):∀j,j < i+1→P j=true:=by
  intro j _;rcases qmk j i with q | q
  · exact h j q
  · have:j=i:=by omega
    subst this;exact hi
theorem d4b {l:List TI} {x:TI} (h:l[0]? =some x):c3a l 0=(c21 x && !b89 (l.take 0) x):=by
  rw [c3a,h];simp
theorem d5f {l:List TI} {i:Nat} {x y:TI} (h0:0 < i) (hy:l[i - 1]? =some y) (h:l[i]? =some x):c3a l i=(c21 x && decide (y.1 < x.1) && !b89 (l.take i) x):=by
  rw [c3a,h];simp only [hy,decide_eq_false (show ¬i=0 by omega),Bool.false_or]
def b3j (l:List TI) (n:Int):Int:=b2r (fun x:TI=>decide (x.1=n) && !x.2.2.1) 0 l
def b6k (l:List TI) (s:ByteArray):Int:=b2r (fun x:TI=>inS s x.2.2.2) 0 l
theorem d3n (l:List TI) (s:ByteArray):decide (0≤b6k l s)=l.any fun y=>inS s y.2.2.2:=c2a _ l 0
theorem f7f {α β:Type} (f:α→β→Bool) (l:List α) (m:List β):(l.any fun a=>m.any fun b=>f a b)=(m.any fun b=>l.any fun a=>f a b):=by
  rw [Bool.eq_iff_iff];simp only [List.any_eq_true];exact ⟨fun ⟨a,ha,b,hb,h⟩=>⟨b,hb,a,ha,h⟩,fun ⟨b,hb,a,ha,h⟩=>⟨a,ha,b,hb,h⟩⟩
set_option maxRecDepth 8000 in
theorem c3l (x0:Int) (x1:Int) (x2:Bool) (x3:List ByteArray) (hsz:∀s∈x3,s.size≤9223372036854775807) (hnl:x3.length≤1048576):Con prog 133 [.agg [Za .i64 x0,Za .i64 x1,Zf x2,V.sl (x3.map Zc)]] [] (.bool (c21 (x0,x1,x2,x3))) []:=by
 apply zcn [.tmp 2] [] func133 ntmps133;intro _ _ _;have T:=tq5 Y3 Y4 Y9 Y48 Y96;have F:=Fc.mk True.intro;apply yR [1];apply b0e;intros;apply d6n [1,30] (b2p _ _ _) (b2p _ _ _);apply b0c _ rfl
 ·intro hc0;have hh:c21 (x0,x1,x2,x3)=false:=by
   cases hq:c21 (x0,x1,x2,x3) with
   |false=>rfl
   |true=>
    exfalso;have hq2:(((decide (1≤x0) && decide (x0≤999)) && (decide (0≤x1) && decide (x1≤13)) && !decide (12 < (x3.length:Int)) && !(x2 && decide (0 < (x3.length:Int)))) && b11 b6a b2v x3 0)=true:=hq;rw [qlg] at hq2;have hq3:=hq2.1;generalize (x3.length:Int)=m at hc0 hq3;clear hq hq2;cases x2<;>simp at hc0 hq3<;>omega
  apply yR [2];apply (zr);rw [hh];exact b0h rfl rfl (.inl rfl)
 ·intro hc0;have hh:c21 (x0,x1,x2,x3)=b11 b6a b2v x3 0:=by
   have hb:((decide (1≤x0) && decide (x0≤999)) && (decide (0≤x1) && decide (x1≤13)) && !decide (12 < (x3.length:Int)) && !(x2 && decide (0 < (x3.length:Int))))=true:=by
    generalize (x3.length:Int)=m at hc0⊢;cases x2<;>simp at hc0⊢<;>omega
   show (((decide (1≤x0) && decide (x0≤999)) && (decide (0≤x1) && decide (x1≤13)) && !decide (12 < (x3.length:Int)) && !(x2 && decide (0 < (x3.length:Int)))) && b11 b6a b2v x3 0)=_;rw [hb];rfl
  apply zn [1];apply b0e;intros;apply yR [1,32,33,34];apply b0g;intros;apply b05 (fun i=>⟨[(1,.ptr 0 0 0),(32,.sl (x3.map Zc)),(33,.int .i64 x3.length),(34,.int .i64 (Zb i))],[.box (.agg [Za .i64 x0,Za .i64 x1,Zf x2,V.sl (x3.map Zc)]) .shal],false,57,0⟩) (fun i=>i≤x3.length∧b11 b6a b2v x3 i=b11 b6a b2v x3 0) (fun i=>x3.length - i) 0
  ·apply b0d [1,32,33,34] [0];rfl
  ·exact ⟨qle _,rfl⟩
  ·rintro i hok9 Q9 n9 e9 r9;obtain ⟨hi1,hR⟩:=hok9;apply yR [1,32,33,34,35];apply b0e;intros;apply b0c _ rfl
   ·intro hc1;have hlt:i < x3.length:=by omega
    obtain ⟨s,hx⟩:∃s,x3[i]? =some s:=⟨_,qla hlt⟩;have hsx:=hsz s (qlb hx);rcases ql8 i with h0 | h0
    ·skip;have hi0:¬((0:Int) < (i:Int)):=by omega
     have hst:b11 b6a b2v x3 i=(b6a s && b11 b6a b2v x3 (i+1)):=by subst h0;exact b77 hx
     apply zn [1,32,33,34];apply b0e;intros;apply b0g;intros;have F:=fq4 (gdm hx) hi0 @decide_false @qmo;apply yR [1,3,4,32,33,34];apply yRc [1,32,33,34,55] (c54 s hsx);apply b0c _ rfl
     ·intro hc2;apply yR [2];apply (zr);rw [hh];exact b0h rfl (by rw [←hR,hst];(try simp at hc2);first | (simp [hc2];done) | (rcases hc2 with h | h<;>simp [h];done) | (simp_all;done)) (.inl rfl)
     ·intro hc2;apply zn [1,32,33,34];apply (yV);apply n9 _ (i+1)
      ·apply b0d [1,32,33,34] [0];rfl
      ·exact ⟨by omega,by rw [←hR,hst];(try simp at hc2);first | (simp [hc2];done) | (simp_all;done)⟩
      ·show _ < _;omega
    ·skip;obtain ⟨y,hy⟩:∃y,x3[i - 1]? =some y:=⟨_,qla (by omega)⟩;have hi0:(0:Int) < i:=by omega
     have hk:((i:Int) - 1).toNat=i - 1:=by omega
     have hst:=b78 (ok:=b6a) (bf:=b2v) h0 hy hx;apply zn [1,32,33,34];apply b0e;intros;apply b0g;intros;have F:=fq6 (gdm hx) hi0 hk (gdm hy) @decide_true @qm0;apply yR [1,3,4,32,33,34];apply yRc [1,32,33,34,55] (c54 s hsx);apply b0c _ rfl
     ·intro hc2;apply yR [2];apply (zr);rw [hh];exact b0h rfl (by rw [←hR,hst];(try simp at hc2);first | (simp [hc2];done) | (rcases hc2 with h | h<;>simp [h];done) | (simp_all;done)) (.inl rfl)
     ·intro hc2;apply zn [1,32,33,34];apply (yV);apply n9 _ (i+1)
      ·apply b0d [1,32,33,34] [0];rfl
      ·exact ⟨by omega,by rw [←hR,hst];(try simp at hc2);first | (simp [hc2];done) | (simp_all;done)⟩
      ·show _ < _;omega
   ·intro hc1;apply zn [];apply yR [2];apply (zr);rw [hh];exact b0h rfl (by rw [←hR,b9u (by omega)]) (.inl rfl)
set_option maxRecDepth 8000 in
theorem d46 (x0:Int) (x1:Int) (x2:Bool) (x3:List ByteArray) (hsz:∀s∈x3,s.size≤9223372036854775807) (hnl:x3.length≤1048576):Con prog 146 [.agg [Za .i64 x0,Za .i64 x1,Zf x2,V.sl (x3.map Zc)]] [] (.bool (c21 (x0,x1,x2,x3))) []:=by
 have hcs:=d7f (ok:=b6a) (bf:=b2v) (l:=x3);apply zcn [.tmp 2] [] func146 ntmps146;intro _ _ _;have T:=tq5 Y3 Y4 Y9 Y48 Y96;have F:=Fc.mk True.intro;apply yR [1];apply b0e;intros;apply b1l [1,36];intro _ k3;apply (g4b);apply zc (b21 _ _ _);apply (zq2);apply (g4i);apply zgc (c6q _);apply (zgU);apply (zq6);apply (d7v);apply (b5q);apply (zq6);apply (zgU);apply (g4i);apply (d7v);apply (b5q);apply (f2h);apply (zq6);apply zgc (d6t x3 hnl);apply (zgU);apply b5y;intro K k;simp only [zE,zP,b0x,b0s,b0j,Nat.reduceEqDiff,reduceIte,Nat.reduceLT,implies_true,forall_const,reduceCtorEq,Ze,Zd,V.un,V.gd,b1c,aop,d5a];repeat (refine ai (by first | (intro h;rw [h];rfl) | omega | (intros;simp_all;done)) ?_)
 apply k _;clear k K;apply k3 _;apply (zk);apply b0c _ rfl
 ·intro hc0;have hh:c21 (x0,x1,x2,x3)=false:=by
   cases hq:c21 (x0,x1,x2,x3) with
   |false=>rfl
   |true=>
    exfalso;have hq2:(((decide (1≤x0) && decide (x0≤999)) && (decide (0≤x1) && decide (x1≤13)) && !decide (12 < (x3.length:Int)) && !(x2 && decide (0 < (x3.length:Int)))) && b11 b6a b2v x3 0)=true:=hq;rw [qlg] at hq2;have hq3:=hq2.1;have hq4:b11 (fun _:ByteArray=>true) b2v x3 0=true:=by have q:=hq2.2;rw [hcs,qlg] at q;exact q.1
    rw [hq4] at hc0;generalize (x3.length:Int)=m at hc0 hq3;clear hq hq2 hq4;cases x2<;>simp at hc0 hq3<;>omega
  apply yR [2];apply (zr);rw [hh];exact b0h rfl rfl (.inl rfl)
 ·intro hc0;have hb2:b11 (fun _:ByteArray=>true) b2v x3 0=true:=by
   cases q:b11 (fun _:ByteArray=>true) b2v x3 0 with
   |true=>rfl
   |false=>(rw [q] at hc0;simp at hc0)
  have hh:c21 (x0,x1,x2,x3)=x3.all b6a:=by
   have hb:((decide (1≤x0) && decide (x0≤999)) && (decide (0≤x1) && decide (x1≤13)) && !decide (12 < (x3.length:Int)) && !(x2 && decide (0 < (x3.length:Int))))=true:=by
    rw [hb2] at hc0;generalize (x3.length:Int)=m at hc0⊢;cases x2<;>simp at hc0⊢<;>omega
   show (((decide (1≤x0) && decide (x0≤999)) && (decide (0≤x1) && decide (x1≤13)) && !decide (12 < (x3.length:Int)) && !(x2 && decide (0 < (x3.length:Int)))) && b11 b6a b2v x3 0)=_;rw [hb,hcs,hb2];rfl
  apply zn [1];apply b0e;intros;apply yR [38,39,40];apply b0g;intros;apply b05 (fun i=>⟨[(38,.sl (x3.map Zc)),(39,.int .i64 x3.length),(40,.int .i64 (Zb i))],[],false,48,0⟩) (fun i=>i≤x3.length∧(x3.drop i).all b6a=x3.all b6a) (fun i=>x3.length - i) 0
  ·apply b0d [38,39,40] [];rfl
  ·exact ⟨qle _,rfl⟩
  ·rintro i hok9 Q9 n9 e9 r9;obtain ⟨hi1,hR⟩:=hok9;apply yR [38,39,40,41];apply b0e;intros;apply b0c _ rfl
   ·intro hc1;have hlt:i < x3.length:=by omega
    obtain ⟨s,hx⟩:∃s,x3[i]? =some s:=⟨_,qla hlt⟩;have hsx:=hsz s (qlb hx);have hst:=b6h (p:=b6a) hx;apply zn [38,39,40];apply b0e;intros;apply b0g;intros;have F:=Fc.mk (gdm hx);apply yR [4,38,39,40];apply yRc [38,39,40,46] (d04 s hsx);apply b0c _ rfl
    ·intro hc2;apply yR [2];apply (zr);rw [hh];exact b0h rfl (by rw [←hR,hst];simp [hc2]) (.inl rfl)
    ·intro hc2;apply zn [38,39,40];apply (yV);apply n9 _ (i+1)
     ·apply b0d [38,39,40] [];rfl
     ·exact ⟨by omega,by rw [←hR,hst];simp [hc2]⟩
     ·show _ < _;omega
   ·intro hc1;apply zn [];apply yR [2];apply (zr);rw [hh];exact b0h rfl (by rw [←hR,b8o (by omega)]) (.inl rfl)
theorem d6z (x0:Int) (x1:Int) (x2:Bool) (x3:List ByteArray) (n:Int):Con prog 116 [.agg [Za .i64 x0,Za .i64 x1,Zf x2,V.sl (x3.map Zc)],.pv [.int .i64 n] 0 0] [] (.bool (decide (x0=n) && !x2)) []:=by
 apply zcn [.tmp 3] [] func116 ntmps116;intro _ _ _;have T:=tq5 Y3 Y4 Y9 Y48 Y96;have F:=Fc.mk True.intro;apply yR [1,2];apply yR [3];apply (zr);exact b0h rfl (by first | rfl | simp) (.inl rfl)
theorem b5p (l:List TI) (n:Int) (hl:l.length≤1048576):Con prog 54 [sQ rQb l,.int .i64 n] [] (.int .i64 (b3j l n)) []:=by
 apply zcn [.tmp 4] [] func54 ntmps54;intro _ _ _;have T:=tq6 Y3 Y4 Y9 Y29 Y48 Y96;have F:=Fc.mk True.intro;apply yR [0,3];apply yRc [4] (b7l l _ _ (fun x=>decide (x.1=n) && !x.2.2.1) hl (.pv _ .nil) (fun x0 x1 x2 x3 _=>d6z x0 x1 x2 x3 n));apply (zr);exact b0h rfl rfl (.inl rfl)
theorem c77 (x0:Int) (x1:Int) (x2:Bool) (x3:List ByteArray) (s:ByteArray) (hlx:x3.length≤1048576):Con prog 134 [.agg [Za .i64 x0,Za .i64 x1,Zf x2,V.sl (x3.map Zc)],.pv [.str s] 0 0] [] (.bool (inS s x3)) []:=by
 apply zcn [.tmp 3] [] func134 ntmps134;intro _ _ _;have T:=tq5 Y3 Y4 Y9 Y48 Y96;have F:=Fc.mk True.intro;apply yR [1,2];apply yRc [3] (c9z x3 s hlx);apply (zr);exact b0h rfl rfl (.inl rfl)
theorem b8q (l:List TI) (s:ByteArray) (hl:l.length≤1048576) (hli:∀x∈l,x.2.2.2.length≤1048576):Con prog 91 [sQ rQb l,.str s] [] (.int .i64 (b6k l s)) []:=by
 apply zcn [.tmp 4] [] func91 ntmps91;intro _ _ _;have T:=tq6 Y3 Y4 Y9 Y29 Y48 Y96;have F:=Fc.mk True.intro;apply yR [0,3];apply yRc [4] (b7l l _ _ (fun x=>inS s x.2.2.2) hl (.pv _ .nil) (fun x0 x1 x2 x3 hm=>c77 x0 x1 x2 x3 s (hli _ hm)));apply (zr);exact b0h rfl rfl (.inl rfl)
theorem b54 (l:List TI) (n:Int) (hl:l.length≤1048576):Con prog 56 [sQ rQb l,.int .i64 n] [] (.int .i64 (b3j l n)) []:=by
 apply zcn [.tmp 4] [] func56 ntmps56;intro _ _ _;have T:=tq6 Y3 Y4 Y9 Y29 Y48 Y96;have F:=Fc.mk True.intro;apply yR [0,1];apply b0e;intros;apply yR [1,7,8,9];apply b0g;intros;apply b05 (fun i=>⟨[(1,.int .i64 n),(7,sQ rQb l),(8,.int .i64 l.length),(9,.int .i64 (Zb i))],[],false,25,0⟩) (fun i=>i≤l.length∧b2r (fun x:TI=>decide (x.1=n) && !x.2.2.1) i (l.drop i)=b2r (fun x:TI=>decide (x.1=n) && !x.2.2.1) 0 l) (fun i=>l.length - i) 0
 ·refine b18 [1,7,8,9] ?_;simp only [b0r,b0k,b0i,b0f,b0n,Nat.reduceEqDiff,reduceIte];rfl
 ·exact ⟨qle _,rfl⟩
 ·rintro i hok5 Q5 n5 e5 r5;obtain ⟨hi1,hR⟩:=hok5;apply yR [1,7,8,9,10];apply b0e;intros;apply b0c _ rfl
  ·intro hc0;have hlt:i < l.length:=by omega
   obtain ⟨⟨x0,x1,x2,x3⟩,hx⟩:∃x:TI,l[i]? =some x:=⟨l[i]'(by omega),qla (by omega)⟩;have hst:=b5j (p:=fun x:TI=>decide (x.1=n) && !x.2.2.1) hx;apply zn [1,7,8,9];apply b0e;intros;apply b0g;intros;have F:=Fc.mk (gdm hx);apply yR [1,5,6,7,8,9];apply yR [1,5,7,8,9,22];apply b0c _ rfl
   ·intro hc1;apply yR [4];apply (zr);exact b0h rfl (by rw [b3j,←hR,hst,if_pos (by simpa using hc1)]) (.inl rfl)
   ·intro hc1;apply zn [1,7,8,9];apply (yV);apply n5 _ (i+1)
    ·apply b0d [1,7,8,9] [];rfl
    ·exact ⟨by omega,by rw [←hR,hst,if_neg (by simpa using hc1)]⟩
    ·show _ < _;omega
  ·intro hc0;apply zn [];apply yR [4];apply (zr);exact b0h rfl (by rw [b3j,←hR,b6g (by omega)]) (.inl rfl)
theorem d2x (l:List TI) (s:ByteArray) (hl:l.length≤1048576) (hli:∀x∈l,x.2.2.2.length≤1048576):Con prog 103 [sQ rQb l,.str s] [] (.int .i64 (b6k l s)) []:=by
 apply zcn [.tmp 4] [] func103 ntmps103;intro _ _ _;have T:=tq6 Y3 Y4 Y9 Y29 Y48 Y96;have F:=Fc.mk True.intro;apply yR [0,1];apply b0e;intros;apply yR [1,7,8,9];apply b0g;intros;apply b05 (fun i=>⟨[(1,.str s),(7,sQ rQb l),(8,.int .i64 l.length),(9,.int .i64 (Zb i))],[],false,20,0⟩) (fun i=>i≤l.length∧b2r (fun x:TI=>inS s x.2.2.2) i (l.drop i)=b2r (fun x:TI=>inS s x.2.2.2) 0 l) (fun i=>l.length - i) 0
 ·refine b18 [1,7,8,9] ?_;simp only [b0r,b0k,b0i,b0f,b0n,Nat.reduceEqDiff,reduceIte];rfl
 ·exact ⟨qle _,rfl⟩
 ·rintro i hok5 Q5 n5 e5 r5;obtain ⟨hi1,hR⟩:=hok5;apply yR [1,7,8,9,10];apply b0e;intros;apply b0c _ rfl
  ·intro hc0;have hlt:i < l.length:=by omega
   obtain ⟨⟨x0,x1,x2,x3⟩,hx⟩:∃x:TI,l[i]? =some x:=⟨l[i]'(by omega),qla (by omega)⟩;have hlx:=hli _ (qlb hx);simp only [] at hlx;have hst:=b5j (p:=fun x:TI=>inS s x.2.2.2) hx;apply zn [1,7,8,9];apply b0e;intros;apply b0g;intros;have F:=Fc.mk (gdm hx);apply yR [1,5,6,7,8,9];apply yRc [1,5,7,8,9,17] (c47 x3 s hlx);apply b0c _ rfl
   ·intro hc1;apply yR [4];apply (zr);exact b0h rfl (by rw [b6k,←hR,hst,if_pos hc1]) (.inl rfl)
   ·intro hc1;apply zn [1,7,8,9];apply (yV);apply n5 _ (i+1)
    ·apply b0d [1,7,8,9] [];rfl
    ·exact ⟨by omega,by rw [←hR,hst,if_neg (by simp [hc1])]⟩
    ·show _ < _;omega
  ·intro hc0;apply zn [];apply yR [4];apply (zr);exact b0h rfl (by rw [b6k,←hR,b6g (by omega)]) (.inl rfl)
end Go.Proofs.YtmbbjhopngejaaaGreat
