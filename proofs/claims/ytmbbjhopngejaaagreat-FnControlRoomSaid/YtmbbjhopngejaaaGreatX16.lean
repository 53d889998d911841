/- What functions compute. No condition. -/
import Derived.Test.YtmbbjhopngejaaaGreatX15
set_option linter.all false
open Go.Vm.V renaming int → Za, str → Zb, bool → Zf
open Nat renaming cast → Zc
open List renaming set_cons_zero → Zd, set_cons_succ → Ze
namespace Go.Proofs.YtmbbjhopngejaaaGreat
open Go Go.Vm Tryz
set_option maxHeartbeats 8000000
theorem d61 (a b:ByteArray):Con prog 174 [.str a,.str b] [] (.bool (b2v a b)) []:=by
 apply zcn [.tmp 4] [] func174 ntmps174;intro _ _ _;have T:=tq2 Y4 Y9;have F:=Fc.mk True.intro;apply yR [0,1];apply d6n [4] (c05 a) (c05 b);apply (zr);exact b0h rfl (by first | rfl | simp) (.inl rfl)
theorem b9e (a:ByteArray):Con prog 175 [.str a] [] (.bool false) []:=by
 apply zcn [.tmp 2] [] func175 ntmps175;intro _ _ _;have T:=Tys.mk Y9;have F:=Fc.mk True.intro;apply yR [0];apply yR [2];apply (zr);exact b0h rfl (by first | rfl | simp) (.inl rfl)
set_option maxRecDepth 8000 in
theorem g37 (l:List ByteArray) (s:ByteArray) (hl:l.length≤1048576) (hs:l.Pairwise fun a b=>b2v a b=true) (hns:s ∉ l):Con prog 143 [.sl (l.map Zb),.str s] [] (.tup [.int .i64 (Zc (c3p s l)),.bool false]) []:=by
 apply zcn [.tmp 4,.tmp 5] [] func143 ntmps143;intro _ _ _;have T:=tq5 Y3 Y4 Y9 Y48 f8y;have F:=Fc.mk True.intro;apply yR [0,1];apply yR [0,1,6];apply yR [0,1,6,7,8];apply b0e;intros;apply b0g;intros;apply b05 (fun p=>⟨[(0,.sl (l.map Zb)),(1,.str s),(6,.int .i64 l.length),(7,.int .i64 (Zc p.1)),(8,.int .i64 (Zc p.2))],[],false,54,0⟩) (fun p=>p.1≤c3p s l∧c3p s l≤p.2∧p.2≤l.length) (fun p=>p.2 - p.1) ((0,l.length):Nat×Nat)
 ·refine b18 [0,1,6,7,8] ?_;simp only [b0r,b0k,b0i,b0f,b0n,Nat.reduceEqDiff,reduceIte];rfl
 ·exact ⟨qle _,d3c s l,qly _⟩
 ·rintro ⟨i,j⟩ hok6 Q6 n6 e6 r6;obtain ⟨hi1,hi2,hi3⟩:=hok6;simp only [] at hi1 hi2 hi3⊢;apply b0e;intros;apply yR [0,1,6,7,8,15];apply b0c _ rfl
  ·intro hc0;have hij:i < j:=by omega
   obtain ⟨h,hh⟩:∃h,h=(i+j) / 2:=⟨_,rfl⟩;have e1:IntKind.u64.wrap ((i:Int)+(j:Int))=(i:Int)+(j:Int):=by rw [IntKind.wrap_u64];omega
   have e2:((i:Int)+(j:Int)).fdiv (2 ^ min (Int.toNat 1) IntKind.u64.bits)=(h:Int):=by rw [show min (Int.toNat 1) IntKind.u64.bits=1 from rfl,Int.fdiv_eq_ediv_of_nonneg _ (by decide)];omega
   have e3:IntKind.i64.wrap (h:Int)=(h:Int):=by rw [IntKind.wrap_i64];omega
   obtain ⟨x,hx⟩:∃x,l[h]? =some x:=⟨_,qla (by omega)⟩;apply zn [0,1,6,7,8];apply b0g;intros;have F:=fq4 e1 e2 e3 (gdm hx);apply yR [0,1,6,7,8,9];apply yRc [0,1,6,7,8,9,27] (d61 x s);apply b0c _ rfl
   ·intro hc1;have hhi:=d5j hs hx hc1;apply (yV);apply n6 _ (h+1,j)
    ·apply b0d [0,1,6,7,8] [];rfl
    ·exact ⟨hhi,hi2,hi3⟩
    ·show _ < _;show j - (h+1) < j - i;omega
   ·intro hc1;have hlo:=d9b hx hc1;apply (yV);apply n6 _ (i,h)
    ·refine b6c [0,1,6,7,8] [] (by decide) (by simp) ?_ ?_ ?_
     ·simp [b0r,b0k,b0i,b0f,V.only,V.onlyL,idx]<;>(first | rfl | decide)
     ·simp [Blk.kindIs,b02,b1m]
     simp only [aQ,fQ,b0r,b0k,b0i,b0f,b0n,Nat.reduceEqDiff,reduceIte,St.comp,List.map_cons,List.map_nil,V.ren,V.renL,idx,List.getD_cons_zero,List.getD_cons_succ,Nat.reduceBEq,cond_true,cond_false,Option.map_some,Option.getD_some,Nat.reduceAdd,Nat.beq_eq_true_eq];all_goals rfl
    ·exact ⟨hi1,hlo,by show h≤l.length;omega⟩
    ·show _ < _;show h - i < j - i;omega
  ·intro hc0;have hie:c3p s l=i:=by omega
   rcases qmk i l.length with hil | hil
   ·skip;obtain ⟨x,hx⟩:∃x,l[i]? =some x:=⟨_,qla hil⟩;have hxs:decide (x=s)=false:=decide_eq_false fun e=>hns (e ▸ qlb hx)
    have hxe:(x=s)=False:=eq_false fun e=>hns (e ▸ qlb hx)
    have hlt:decide ((i:Int) < (l.length:Int))=true:=decide_eq_true (by omega);apply zn [0,1,6,7];have F:=fq4 (gdm hx) hxs hlt hxe;apply g1p [4,5] (b9e x) (b9e s);apply (zr);exact b0h rfl (by rw [hie]) (.inl rfl)
   ·skip;obtain ⟨x,hxd⟩:∃x:ByteArray,x=s:=⟨s,rfl⟩;have hlt:decide ((i:Int) < (l.length:Int))=false:=decide_eq_false (by omega);apply zn [0,1,6,7];have F:=Fc.mk hlt;apply g1p [4,5] (b9e x) (b9e s);apply (zr);exact b0h rfl (by rw [hie]) (.inl rfl)
set_option maxRecDepth 8000 in
theorem f4x (l:List TI) (i:Nat) (s:ByteArray) (x0:Int) (x1:Int) (x2:Bool) (x3:List ByteArray) (hx:l[i]? =some (x0,x1,x2,x3)) (hs:x3.Pairwise fun a b=>b2v a b=true) (hns:s ∉ x3) (hnl:x3.length≤1000):Con prog 100 [.ptr 0 i 0,.str s] [.arr (l.map rQe) .deep] (.tup []) [.arr ((l.set i (x0,x1,x2,b6i x3 s)).map rQe) .deep]:=by
 have hil:=(qlc.1 hx).1;have hix:(l.map rQe)[i]? =some (V.agg ([Za .i64 x0,Za .i64 x1,Zf x2]++[slN (x3.map Zb)])):=by rw [qma,hx];rfl
 have hg:((l.map rQe).set i (V.agg [Za .i64 x0,Za .i64 x1,Zf x2,V.ref 1])).getD i .any=V.agg [Za .i64 x0,Za .i64 x1,Zf x2,V.ref 1]:=by rw [qlo,qlf (by rw [qlu];exact hil)];rfl
 have hfin:(l.map rQe).set i (V.agg [Za .i64 x0,Za .i64 x1,Zf x2,V.sl ((b6i x3 s).map Zb)])=(l.set i (x0,x1,x2,b6i x3 s)).map rQe:=by have q:=qmx (f:=rQe) (l:=l) (i:=i) (a:=(x0,x1,x2,b6i x3 s));simp only [rQe,f9n] at q;exact q.symm
 apply f3q [] [(144,[0,2])] func100 rfl rfl rfl (by simp [ntmps100]) _ (f1n 0 i _ [Za .i64 x0,Za .i64 x1,Zf x2] (x3.map Zb) .deep rfl (.inl rfl) hix (by rw [qmp,qlk];intro a _;rfl) rfl);intro _ n0 _;simp only [aQ,fQ,ntmps100,b5s,Nat.reduceAdd,Zd,Ze,List.cons_append,List.nil_append,List.length_cons,List.length_nil];have T:=tq5 Y3 Y4 Y9 Y48 Y96;have F:=Fc.mk True.intro;have F:=fq4 hg @List.set_set.{0} @qlr.{0} @qlh;apply yRc [0,1,4] (g37 x3 s (by omega) hs hns);apply b2u;intro _ k2;apply (g0m);apply (d5m);apply (zq2);apply (b2c);apply zxt ((by have q:=g5b (x3.map Zb) (Zb s) (c3p s x3) .flat (.inl rfl) (by rw [qlu];exact d3c s x3) (by rw [qlu];omega) (fun x hx=>by obtain ⟨_,_,rfl⟩:=qmd.1 hx;rfl) rfl;rw [f9s] at q;exact q.x));rintro _ _ ⟨rfl,rfl⟩;apply (zEt);apply (zq2);apply (b55);apply k2 _;apply n0 _ _ (c8w 0 _ _ _ rfl (.inl ⟨rfl,rfl⟩) (by rw [hfin,qmp,qlk];intro a _;exact f5l a));try simp only [aQ,fQ,Zd,Ze,List.cons_append,List.nil_append,List.length_cons,List.length_nil,Nat.reduceAdd]
 apply (zf);rw [hfin];exact rta
set_option maxRecDepth 8000 in
theorem d0g (fl:List TA) (order need:List Int) (hl:fl.length≤1048576) (hol:order.length≤12) (ho:∀i∈order,∃(k:Nat) (a:TA),i=(k:Int)∧fl[k]? =some a∧0≤a.2.1∧a.2.1≤3) (hn:need.length=4∧∀x∈need,0≤x∧x≤6):Con prog 98 [sQ rQa fl,.sl (order.map (Za .i64)),.sl (need.map (Za .i64))] [] (.ref 0) [.arr ((order.foldl (c62 fl) need).map (Za .i64)) .flat]:=by
 apply zcn [.tmp 6] [] func98 ntmps98;intro _ _ _;have T:=tq5 Y3 Y9 Y28 Y41 Y98;have F:=Fc.mk True.intro;apply yR [0,1,2];apply yRc [0,1,7] (b4g need (by omega));apply b0e;intros;apply yR [0,7,12,13,14];apply b0g;intros;apply b05 (fun j=>⟨[(0,sQ rQa fl),(7,.ref 0),(12,.sl (order.map (Za .i64))),(13,.int .i64 order.length),(14,.int .i64 (Zc j))],[.arr (((order.take j).foldl (c62 fl) need).map (Za .i64)) .flat],false,30,0⟩) (fun j=>j≤order.length) (fun j=>order.length - j) 0
 ·apply b0d [0,7,12,13,14] [1];rfl
 ·exact qle _
 ·rintro j hok6 Q6 n6 e6 r6;have hj1:j≤order.length:=hok6;apply yR [0,7,12,13,14,15];apply b0e;intros;apply b0c _ rfl
  ·intro hc0;have hlt:j < order.length:=by omega
   obtain ⟨y,hy⟩:∃y,order[j]? =some y:=⟨_,qla hlt⟩;obtain ⟨k,⟨a0,a1,a2,a3,a4⟩,hk,ha,hk0,hk3⟩:=ho y (qlb hy);simp only [] at hk0 hk3;obtain ⟨kd,hkd⟩:=qlw hk0;subst hkd hk;have hkl:=(qlc.1 ha).1;have hdl:((order.take j).foldl (c62 fl) need).length=4:=by rw [g34];exact hn.1
   obtain ⟨v,hv⟩:∃v,((order.take j).foldl (c62 fl) need)[kd]? =some v:=⟨_,qla (by omega)⟩;have hvb:=d5s (fl:=fl) (b:=0) (Int.le_refl _) (order.take j) need (fun v hv=>by have:=hn.2 v hv;omega) v (qlb hv);have htl:(order.take j).length=j:=by rw [qlj];omega
   have hst:=f7o (fl:=fl) need hy;have hds:c62 fl ((order.take j).foldl (c62 fl) need) (k:Int)=((order.take j).foldl (c62 fl) need).set kd (v - 1):=by rw [c62,qlh,ha];simp only [Int.toNat_natCast,List.getD_eq_getElem?_getD,hv,Option.getD_some]
   apply zn [0,7,12,13,14];apply b0e;intros;apply b0g;intros;have F:=fq6 (gdm hy) (gdm ha) (gdm hv) hdl @b47 @qlh;apply yR [0,7,9,12,13,14];apply yQ [0,7,12,13,14];apply (yV);apply n6 _ (j+1)
   ·apply b0d [0,7,12,13,14] [0];rw [hst,hds];rfl
   ·exact hlt
   ·show _ < _;omega
  ·intro hc0;have hje:order.take j=order:=ql3 (by omega);apply zn [7];apply yR [6];apply (zr);rw [hje];exact b1q rfl rfl rfl
def chO (n:Int) (ss:List TS) (fl:List TA) (node:Int) (need:List Int):List Int:=(c1q n ss fl node need).2
def chN (n:Int) (ss:List TS) (fl:List TA) (node:Int) (need:List Int):List ByteArray:=b8r fl (chO n ss fl node need) fl.length
def chF (n:Int) (ss:List TS) (fl:List TA) (node:Int) (need:List Int):List TA:=b20 fl (chO n ss fl node need) fl.length
def chL (n:Int) (ss:List TS) (fl:List TA) (node:Int) (need:List Int):List Int:=(c1q n ss fl node need).1
structure SendOK (n:Int) (ss:List TS) (fl:List TA) (ins:List TI) (k:Nat) (x:TI) (need:List Int):Prop where
  ds:DsFacts n ss fl
  at_:ins[k]? =some x
  node:0≤x.2.1∧x.2.1 < n
  nd4:need.length=4∧∀v∈need,0≤v∧v≤6
  srt:x.2.2.2.Pairwise fun a b=>b2v a b=true
  dis:∀s∈chN n ss fl x.2.1 need,s ∉ x.2.2.2
  len:x.2.2.2.length≤12
  il:ins.length≤8
  nl:∀y∈ins,y.2.2.2.length≤12
section
variable {n:Int} {ss:List TS} {fl:List TA} {node:Int} {need:List Int}
theorem d1v (hd:DsFacts n ss fl) (hn:need.length=4∧∀v∈need,0≤v∧v≤6) {i:Int} (h:i∈chO n ss fl node need):∃(k:Nat) (a:TA),i=(k:Int)∧fl[k]? =some a∧k < fl.length∧b19 a=true∧0≤a.2.1∧a.2.1≤3:=by
  have hs:=(b8c (fl:=fl) hn (b7m fl (tmL n ss node))).2.2.2;obtain ⟨k,a,h1,h2,h3,h4⟩:=c2s (hs.subset h);have:=hd.hap a (qlb h3);rw [b8l,qlg] at h4;exact ⟨k,a,h1,h3,h2,h4.1,this.1.1,this.1.2⟩
theorem g15 (hn:need.length=4∧∀v∈need,0≤v∧v≤6):(chO n ss fl node need).Nodup:=
  List.Sublist.nodup (b8c (fl:=fl) hn (b7m fl (tmL n ss node))).2.2.2 (d4j fl (tmL n ss node))
theorem f3x (hd:DsFacts n ss fl) (hn:need.length=4∧∀v∈need,0≤v∧v≤6):(chO n ss fl node need).length≤12:=
  ql7 (b8c (fl:=fl) hn (b7m fl (tmL n ss node))).2.2.1 (ql7 (c5s ..) hd.hfl)
theorem c1y (hd:DsFacts n ss fl):(chN n ss fl node need).length≤12:=ql7 (d24 ..) hd.hfl
theorem d2y (hd:DsFacts n ss fl) (hn:need.length=4∧∀v∈need,0≤v∧v≤6):b3s (chO n ss fl node need)=b7k (chO n ss fl node need) fl.length:=
  g5v (g15 hn) fun i hi=>by
    obtain ⟨k,_,h1,_,h2,_⟩:=d1v hd hn hi;exact ⟨k,h1,h2⟩
theorem c6t:chN n ss fl node need=(b7k (chO n ss fl node need) fl.length).map (nameAt fl):=d8t fl _ _ (qly _)
theorem d2r {s:ByteArray} (h:s∈chN n ss fl node need):∃(k:Nat) (a:TA),(k:Int)∈chO n ss fl node need∧fl[k]? =some a∧a.1=s:=by
  rw [c6t] at h;obtain ⟨i,hi,rfl⟩:=qmd.1 h;obtain ⟨j,hj,rfl⟩:=ql0.1 hi;obtain ⟨q,h1,h2,h3,_⟩:=c1p (qla hj);rw [h1];exact ⟨q,fl[q],h3,qla h2,by rw [nameAt,qlh,qla h2]⟩
theorem g5h (hd:DsFacts n ss fl):(chN n ss fl node need).Nodup:=by
  rw [c6t,List.Nodup,List.pairwise_map];refine ql6.2 fun i j hi hj hij=> ?_
  obtain ⟨p,p1,p2,_,p4⟩:=c1p (qla hi);obtain ⟨q,q1,q2,_,q4⟩:=c1p (qla hj);rw [p1,q1,nameAt,nameAt,qlh,qlh,qla p2,qla q2];have hlt:p < q:=by
    have h1:(b7k (chO n ss fl node need) fl.length)[i]∈(b7k (chO n ss fl node need) fl.length).take j:=ql0.2 ⟨i,by rw [qlj];omega,by rw [List.getElem_take]⟩;rw [q4,p1,b7k,List.mem_filter,qmd] at h1;obtain ⟨⟨z,hz,e⟩,_⟩:=h1;have:=qmc.1 hz;omega
  intro e;have hb:=ql6.1 hd.hinc p q p2 q2 hlt;simp only [c59] at hb;simp only at e;rw [e,b7c] at hb;cases hb
theorem f2r {s:ByteArray}:∀{N:List ByteArray} {j:Nat},N.Nodup→N[j]? =some s→s ∉ N.take j
  | _,0,_,_=>by simp
  | [],j+1,_,h=>by simp at h
  | t::N,j+1,hn,h=>by
    have hn':=List.nodup_cons.1 hn;have h':N[j]? =some s:=by simpa using h
    rw [List.take_succ_cons,qlv];rintro (e | e)
    · subst e;exact hn'.1 (qlb h')
    · exact f2r hn'.2 h' e
theorem c9k {ins:List TI} {k:Nat} {x0 x1:Int} {x2:Bool} {x3:List ByteArray} (h:SendOK n ss fl ins k (x0,x1,x2,x3) need) {j:Nat} {s:ByteArray} (hj:(chN n ss fl x1 need)[j]? =some s) :
    s ∉ b3l x3 ((chN n ss fl x1 need).take j)∧(b3l x3 ((chN n ss fl x1 need).take j)).Pairwise (fun a b=>b2v a b=true)∧(b3l x3 ((chN n ss fl x1 need).take j)).length≤24∧(b4i k ins ((chN n ss fl x1 need).take j))[k]? =some (x0,x1,x2,b3l x3 ((chN n ss fl x1 need).take j))∧(b4i k ins ((chN n ss fl x1 need).take j)).length≤8∧(∀y∈b4i k ins ((chN n ss fl x1 need).take j),y.2.2.2.length≤24)∧
    (b4i k ins ((chN n ss fl x1 need).take j)).set k (x0,x1,x2,b6i (b3l x3 ((chN n ss fl x1 need).take j)) s)=b4i k ins ((chN n ss fl x1 need).take (j+1)):=by
  have hnd:=g5h (node:=x1) (need:=need) h.ds;have hsub:∀t∈(chN n ss fl x1 need).take j,t∈chN n ss fl x1 need:=fun t ht=>qlz ht
  have hl:(b3l x3 ((chN n ss fl x1 need).take j)).length≤24:=by
    have h1:=c1y (node:=x1) (need:=need) h.ds;have h2:=h.len;simp only at h2;rw [c5v,qlj];omega
  refine ⟨fun q=> ?_,c6m h.srt ((List.take_sublist ..).nodup hnd) fun t ht=>h.dis t (hsub t ht),hl,c5l h.at_ _,by rw [c1u];exact h.il,fun y hy=> ?_,?_⟩
  · rcases b4t.1 q with q | q
    · exact h.dis s (qlb hj) q
    · exact f2r hnd hj q
  · rw [b84 h.at_] at hy
    rcases List.mem_or_eq_of_mem_set hy with q | q
    · have:=h.nl y q;omega
    · subst q;exact hl
  · have e:=f0r h.at_ ((chN n ss fl x1 need).take j) s
    rw [qlx,hj];exact e
end
set_option maxRecDepth 8000 in
theorem f5w (l:List ByteArray) (s:ByteArray) (hl:l.length≤1048576) (hns:s ∉ l):Con prog 152 [.sl (l.map Zb),.str s] [] (.ref 0) [.arr ((b6i l s).map Zb) .flat]:=by
 have hn1:∀m:Nat,((l.take m).map Zb).all V.noSl=true:=fun m=>by rw [qmp,qlk];intro a _;rfl
 have hn2:∀m:Nat,((l.drop m).map Zb).all V.noSl=true:=fun m=>by rw [qmp,qlk];intro a _;rfl
 apply zcn [.tmp 4] [] func152 ntmps152;intro _ _ _;have T:=tq3 Y3 Y9 Y48;have F:=Fc.mk True.intro;have F:=fq2 hn1 hn2;apply yR [0,1];apply yR [0,1,5];apply b0e;intros;apply b0g;intros;apply b05 (fun k=>⟨[(0,.sl (l.map Zb)),(1,.str s),(5,.int .i64 (Zc k))],[],false,45,0⟩) (fun k=>k≤l.length∧k+c3p s (l.drop k)=c3p s l) (fun k=>l.length - k) 0
 ·apply b0d [0,1,5] [];rfl
 ·exact ⟨qle _,by rw [List.drop_zero,Nat.zero_add]⟩
 ·rintro k hok5 Q5 n5 e5 r5;obtain ⟨hk1,hR⟩:=hok5;rcases qmk k l.length with hkl | hkl
  ·skip;obtain ⟨x,hx⟩:∃x,l[k]? =some x:=⟨_,qla hkl⟩;have hlt:decide ((k:Int) < (l.length:Int))=true:=decide_eq_true (by omega);have hxs:decide (x=s)=false:=decide_eq_false fun e=>hns (e ▸ qlb hx)
   have htk:(l.take k).length=k:=by rw [qlj];omega
   apply b0e;intros;have F:=fq5 hn1 hn2 (gdm hx) hlt hxs;apply yR [0,1,5,17];apply b0c _ rfl
   ·intro hc0;have hps:=g4a hx (s:=s) hc0;apply zn [0,1,5];apply b0g;intros;apply (yV);apply n5 _ (k+1)
    ·apply b0d [0,1,5] [];rfl
    ·exact ⟨hkl,by rw [←hps];exact hR⟩
    ·show _ < _;omega
   ·intro hc0;have hpk:c3p s l=k:=by
     first
     |(have h:=d4p hx (s:=s) (by simpa using hc0);omega)
     |(have h:=d8y (s:=s) hkl;omega)
    have htk2:(l.take k).length=k:=by rw [qlj];omega
    have hdk2:(l.drop k).length=l.length - k:=qmj;have hca0:∀y∈(l.take k).map Zb++[Zb s],y.cells.length=1:=by
     intro y hy;rcases qll.1 hy with h | h
     ·obtain ⟨_,_,rfl⟩:=qmd.1 h;rfl
     ·rw [qlm] at h;subst h;rfl
    simp only [V.cells] at hca0;have hca:=eq_true hca0;apply zn [0,1,5];apply b0e;intros;have F:=fq8 hn1 hn2 (gdm hx) hlt hxs htk2 hdk2 hca;apply yR [0,1,5,31];apply b2a _ rfl
    ·intro hc1;exfalso;simp at hc1
    ·intro hc1;try simp only [zC,reduceCtorEq] at hc1
     apply zn [0,1,5];apply b0e;intro _ n14 _ _;apply b1b (by kernel_rfl);intro _ q15 k15;show b13 _ _ _ _ 13 (Array.replicate 13 false) _;refine zdU q15 true 1 34 ?_;refine zdU q15 true 2 35 ?_;refine b6s q15 true 3 36 ?_;refine zdU q15 false 5 38 ?_;refine zdU q15 false 8 41 ?_;refine zdU q15 false 9 42 ?_;apply b5m 0 6 10 rfl rfl rfl (by kernel_rfl)
     ·apply (b03);apply b5m 4 6 10 rfl rfl rfl (by kernel_rfl)
      ·apply (b2f);apply b1e 6 10 rfl rfl (by kernel_rfl)
       ·apply (b03);apply b1e 7 10 rfl rfl (by kernel_rfl)
        ·apply (b2f);refine b6s q15 true 10 43 ?_;apply b0l 11;apply b0q 12;apply b0b (by kernel_rfl);apply k15 _;apply n14 _ _ (b0a [4] _);apply (zq1);exact b1q rfl rfl (by rw [b6i,hpk];simp)
        ·apply (b4b);apply b0l 7;apply b0l 11;apply b0q 12;apply b0b (by kernel_rfl);apply k15 _;apply n14 _ _ (b0a [4] _);apply (zq1);exact b1q rfl rfl (by rw [b6i,hpk];simp)
       ·apply (b4b);apply b1j 6;apply b0l 7;apply b0l 11;apply b0q 12;apply b0b (by kernel_rfl);apply k15 _;apply n14 _ _ (b0a [4] _);apply (zq1);exact b1q rfl rfl (by rw [b6i,hpk];simp)
      ·apply (b03);apply b1e 4 10 rfl rfl (by kernel_rfl)
       ·apply (b2f);apply b1e 7 10 rfl rfl (by kernel_rfl)
        ·apply (b2f);refine b6s q15 true 10 43 ?_;apply b0l 11;apply b0q 12;apply b0b (by kernel_rfl);apply k15 _;apply n14 _ _ (b0a [4] _);apply (zq1);exact b1q rfl rfl (by rw [b6i,hpk];simp)
        ·apply (b4b);apply b0l 7;apply b0l 11;apply b0q 12;apply b0b (by kernel_rfl);apply k15 _;apply n14 _ _ (b0a [4] _);apply (zq1);exact b1q rfl rfl (by rw [b6i,hpk];simp)
       ·apply (b4b);apply b0l 4;apply b0l 7;apply b0l 11;apply b0q 12;apply b0b (by kernel_rfl);apply k15 _;apply n14 _ _ (b0a [4] _);apply (zq1);exact b1q rfl rfl (by rw [b6i,hpk];simp)
      ·apply (b4b);apply b1e 4 6 rfl rfl (by kernel_rfl)
       ·apply (b2f);apply b1j 6;apply b0l 7;apply b0l 11;apply b0q 12;apply b0b (by kernel_rfl);apply k15 _;apply n14 _ _ (b0a [4] _);apply (zq1);exact b1q rfl rfl (by rw [b6i,hpk];simp)
       ·apply (b03);apply b0l 4;apply b0l 7;apply b0l 11;apply b0q 12;apply b0b (by kernel_rfl);apply k15 _;apply n14 _ _ (b0a [4] _);apply (zq1);exact b1q rfl rfl (by rw [b6i,hpk];simp)
     ·apply (b03);apply b1e 0 10 rfl rfl (by kernel_rfl)
      ·apply (b03);apply b1e 4 10 rfl rfl (by kernel_rfl)
       ·apply (b2f);apply b1e 7 10 rfl rfl (by kernel_rfl)
        ·apply (b2f);refine b6s q15 true 10 43 ?_;apply b0l 11;apply b0q 12;apply b0b (by kernel_rfl);apply k15 _;apply n14 _ _ (b0a [4] _);apply (zq1);exact b1q rfl rfl (by rw [b6i,hpk];simp)
        ·apply (b4b);apply b0l 7;apply b0l 11;apply b0q 12;apply b0b (by kernel_rfl);apply k15 _;apply n14 _ _ (b0a [4] _);apply (zq1);exact b1q rfl rfl (by rw [b6i,hpk];simp)
       ·apply (b4b);apply b0l 4;apply b0l 7;apply b0l 11;apply b0q 12;apply b0b (by kernel_rfl);apply k15 _;apply n14 _ _ (b0a [4] _);apply (zq1);exact b1q rfl rfl (by rw [b6i,hpk];simp)
      ·apply (b4b);apply b1j 0;apply b0l 4;apply b0l 7;apply b0l 11;apply b0q 12;apply b0b (by kernel_rfl);apply k15 _;apply n14 _ _ (b0a [4] _);apply (zq1);exact b1q rfl rfl (by rw [b6i,hpk];simp)
     ·apply (b4b);apply b1e 0 6 rfl rfl (by kernel_rfl)
      ·apply (b03);apply b1e 4 6 rfl rfl (by kernel_rfl)
       ·apply (b2f);apply b1j 6;apply b0l 7;apply b0l 11;apply b0q 12;apply b0b (by kernel_rfl);apply k15 _;apply n14 _ _ (b0a [4] _);apply (zq1);exact b1q rfl rfl (by rw [b6i,hpk];simp)
       ·apply (b03);apply b0l 4;apply b0l 7;apply b0l 11;apply b0q 12;apply b0b (by kernel_rfl);apply k15 _;apply n14 _ _ (b0a [4] _);apply (zq1);exact b1q rfl rfl (by rw [b6i,hpk];simp)
      ·apply (b03);apply b1j 0;apply b0l 4;apply b0l 7;apply b0l 11;apply b0q 12;apply b0b (by kernel_rfl);apply k15 _;apply n14 _ _ (b0a [4] _);apply (zq1);exact b1q rfl rfl (by rw [b6i,hpk];simp)
  ·skip;have hlt:decide ((k:Int) < (l.length:Int))=false:=decide_eq_false (by omega);apply b0e;intros;have F:=fq3 hn1 hn2 hlt;apply yR [0,1,5,17];apply b2a _ rfl
   ·intro hc0;exfalso;simp at hc0
   ·intro hc0;try simp only [zC,reduceCtorEq] at hc0
    have hpk:c3p s l=k:=by
     first
     |(have h:=d4p hx (s:=s) (by simpa using hc0);omega)
     |(have h:=d8y (s:=s) hkl;omega)
    have htk2:(l.take k).length=k:=by rw [qlj];omega
    have hdk2:(l.drop k).length=l.length - k:=qmj;have hca0:∀y∈(l.take k).map Zb++[Zb s],y.cells.length=1:=by
     intro y hy;rcases qll.1 hy with h | h
     ·obtain ⟨_,_,rfl⟩:=qmd.1 h;rfl
     ·rw [qlm] at h;subst h;rfl
    simp only [V.cells] at hca0;have hca:=eq_true hca0;apply zn [0,1,5];apply b0e;intros;have F:=fq6 hn1 hn2 hlt htk2 hdk2 hca;apply yR [0,1,5,31];apply b2a _ rfl
    ·intro hc1;exfalso;simp at hc1
    ·intro hc1;try simp only [zC,reduceCtorEq] at hc1
     apply zn [0,1,5];apply b0e;intro _ n22 _ _;apply b1b (by kernel_rfl);intro _ q23 k23;show b13 _ _ _ _ 13 (Array.replicate 13 false) _;refine zdU q23 true 1 34 ?_;refine zdU q23 true 2 35 ?_;refine b6s q23 true 3 36 ?_;refine zdU q23 false 5 38 ?_;refine zdU q23 false 8 41 ?_;refine zdU q23 false 9 42 ?_;apply b5m 0 6 10 rfl rfl rfl (by kernel_rfl)
     ·apply (b03);apply b5m 4 6 10 rfl rfl rfl (by kernel_rfl)
      ·apply (b2f);apply b1e 6 10 rfl rfl (by kernel_rfl)
       ·apply (b03);apply b1e 7 10 rfl rfl (by kernel_rfl)
        ·apply (b2f);refine b6s q23 true 10 43 ?_;apply b0l 11;apply b0q 12;apply b0b (by kernel_rfl);apply k23 _;apply n22 _ _ (b0a [4] _);apply (zq1);exact b1q rfl rfl (by rw [b6i,hpk];simp)
        ·apply (b4b);apply b0l 7;apply b0l 11;apply b0q 12;apply b0b (by kernel_rfl);apply k23 _;apply n22 _ _ (b0a [4] _);apply (zq1);exact b1q rfl rfl (by rw [b6i,hpk];simp)
       ·apply (b4b);apply b1j 6;apply b0l 7;apply b0l 11;apply b0q 12;apply b0b (by kernel_rfl);apply k23 _;apply n22 _ _ (b0a [4] _);apply (zq1);exact b1q rfl rfl (by rw [b6i,hpk];simp)
      ·apply (b03);apply b1e 4 10 rfl rfl (by kernel_rfl)
       ·apply (b2f);apply b1e 7 10 rfl rfl (by kernel_rfl)
        ·apply (b2f);refine b6s q23 true 10 43 ?_;apply b0l 11;apply b0q 12;apply b0b (by kernel_rfl);apply k23 _;apply n22 _ _ (b0a [4] _);apply (zq1);exact b1q rfl rfl (by rw [b6i,hpk];simp)
        ·apply (b4b);apply b0l 7;apply b0l 11;apply b0q 12;apply b0b (by kernel_rfl);apply k23 _;apply n22 _ _ (b0a [4] _);apply (zq1);exact b1q rfl rfl (by rw [b6i,hpk];simp)
       ·apply (b4b);apply b0l 4;apply b0l 7;apply b0l 11;apply b0q 12;apply b0b (by kernel_rfl);apply k23 _;apply n22 _ _ (b0a [4] _);apply (zq1);exact b1q rfl rfl (by rw [b6i,hpk];simp)
      ·apply (b4b);apply b1e 4 6 rfl rfl (by kernel_rfl)
       ·apply (b2f);apply b1j 6;apply b0l 7;apply b0l 11;apply b0q 12;apply b0b (by kernel_rfl);apply k23 _;apply n22 _ _ (b0a [4] _);apply (zq1);exact b1q rfl rfl (by rw [b6i,hpk];simp)
       ·apply (b03);apply b0l 4;apply b0l 7;apply b0l 11;apply b0q 12;apply b0b (by kernel_rfl);apply k23 _;apply n22 _ _ (b0a [4] _);apply (zq1);exact b1q rfl rfl (by rw [b6i,hpk];simp)
     ·apply (b03);apply b1e 0 10 rfl rfl (by kernel_rfl)
      ·apply (b03);apply b1e 4 10 rfl rfl (by kernel_rfl)
       ·apply (b2f);apply b1e 7 10 rfl rfl (by kernel_rfl)
        ·apply (b2f);refine b6s q23 true 10 43 ?_;apply b0l 11;apply b0q 12;apply b0b (by kernel_rfl);apply k23 _;apply n22 _ _ (b0a [4] _);apply (zq1);exact b1q rfl rfl (by rw [b6i,hpk];simp)
        ·apply (b4b);apply b0l 7;apply b0l 11;apply b0q 12;apply b0b (by kernel_rfl);apply k23 _;apply n22 _ _ (b0a [4] _);apply (zq1);exact b1q rfl rfl (by rw [b6i,hpk];simp)
       ·apply (b4b);apply b0l 4;apply b0l 7;apply b0l 11;apply b0q 12;apply b0b (by kernel_rfl);apply k23 _;apply n22 _ _ (b0a [4] _);apply (zq1);exact b1q rfl rfl (by rw [b6i,hpk];simp)
      ·apply (b4b);apply b1j 0;apply b0l 4;apply b0l 7;apply b0l 11;apply b0q 12;apply b0b (by kernel_rfl);apply k23 _;apply n22 _ _ (b0a [4] _);apply (zq1);exact b1q rfl rfl (by rw [b6i,hpk];simp)
     ·apply (b4b);apply b1e 0 6 rfl rfl (by kernel_rfl)
      ·apply (b03);apply b1e 4 6 rfl rfl (by kernel_rfl)
       ·apply (b2f);apply b1j 6;apply b0l 7;apply b0l 11;apply b0q 12;apply b0b (by kernel_rfl);apply k23 _;apply n22 _ _ (b0a [4] _);apply (zq1);exact b1q rfl rfl (by rw [b6i,hpk];simp)
       ·apply (b03);apply b0l 4;apply b0l 7;apply b0l 11;apply b0q 12;apply b0b (by kernel_rfl);apply k23 _;apply n22 _ _ (b0a [4] _);apply (zq1);exact b1q rfl rfl (by rw [b6i,hpk];simp)
      ·apply (b03);apply b1j 0;apply b0l 4;apply b0l 7;apply b0l 11;apply b0q 12;apply b0b (by kernel_rfl);apply k23 _;apply n22 _ _ (b0a [4] _);apply (zq1);exact b1q rfl rfl (by rw [b6i,hpk];simp)
set_option maxRecDepth 8000 in
theorem g3p (l:List TI) (k:Nat) (s:ByteArray) (x0:Int) (x1:Int) (x2:Bool) (x3:List ByteArray) (hl:l.length≤1048576) (hli:∀x∈l,x.2.2.2.length≤1048576) (hk:l[k]? =some (x0,x1,x2,x3)) (hns:s ∉ x3):Con prog 111 [sQ rQb l,.int .i64 (Zc k),.str s] [] (.ref 0) [.arr ((l.set k (x0,x1,x2,b6i x3 s)).map rQb) .deep]:=by
 have hkl:=(qlc.1 hk).1;have hnl:=hli _ (qlb hk);simp only [] at hnl;have hfin:(l.map rQb).set k (V.agg [Za .i64 x0,Za .i64 x1,Zf x2,V.sl ((b6i x3 s).map Zb)])=(l.set k (x0,x1,x2,b6i x3 s)).map rQb:=by have q:=qmx (f:=rQb) (l:=l) (i:=k) (a:=(x0,x1,x2,b6i x3 s));exact q.symm
 apply zcn [.tmp 6] [] func111 ntmps111;intro _ _ _;have T:=tq6 Y3 Y4 Y9 Y29 Y48 Y96;have F:=Fc.mk True.intro;have F:=fq3 @qlh (gdm hk) hfin;apply yR [0,1,2];apply b0e;intro _ n2 _ _;apply yVc (b3p l hl hli);apply n2
 ·apply b0m (b0a [1,2,7] _);simp only [b0r,b0k,b0i,b0f,b0n,Nat.reduceEqDiff,reduceIte];exact b0m (c0v 1 l.length _ rfl) c8s
 try simp only [b04,b09,Nat.reduceEqDiff,reduceIte,Zd,Ze]
 apply yR [1,2,7,8];apply yRc [1,7,8] (f5w x3 s hnl hns);apply yR [7];apply yR [6];apply (zr);exact rta
set_option maxRecDepth 100000 in
theorem c2l (n:Int) (ss:List TS) (fl:List TA) (ins:List TI) (ws:List TW) (k:Nat) (x0:Int) (x1:Int) (x2:Bool) (x3:List ByteArray) (need:List Int) (hS:SendOK n ss fl ins k (x0,x1,x2,x3) need) (hwl:ws.length≤1048576) (hwn:∀x∈ws,x.2.length≤1048576):Con prog 45 [tQ n ss,kQ fl ins ws,.int .i64 (Zc k),.sl (need.map (Za .i64))] [] (.tup [.agg [.ref 0,.ref 1,.ref 2],.ref 3,.ref 4]) [aQ rQa (chF n ss fl x1 need),.arr ((b4i k ins (chN n ss fl x1 need)).map rQb) (b1w ins.length),fQ rQc ws,.arr ((chN n ss fl x1 need).map Zb) .flat,.arr ((chL n ss fl x1 need).map (Za .i64)) .flat]:=by
 have hil:=hS.il;have hfl12:=hS.ds.hfl;have hkl:=(qlc.1 hS.at_).1;have hin:∀x∈ins,x.2.2.2.length≤1048576:=fun x hx=>ql7 (hS.nl x hx) (by decide)
 have hnd2:=hS.node;have hne2:=hS.nd4;simp only [] at hnd2;have hcl:=c1y (node:=x1) (need:=need) hS.ds;have hco:=f3x (node:=x1) hS.ds hne2;have hfk:b1w ins.length=.deep:=by unfold b1w;rw [if_neg (by omega)]
 apply zcn [.cell 8 32,.tmp 9,.tmp 10] [] func45 ntmps45;intro _ _ _;have T:=tqa (c2r Y3 Y4 Y9 Y24 Y26 Y28 Y29 Y30 Y32 Y41 Y48 Y81) (tq3 Y96 Y98 b7w);have F:=Fc.mk True.intro;have F:=fq2 @qlh (gdm hS.at_);apply yR [2,3,4,5,8];apply b0e;intro _ n2 _ _;apply b1b (by kernel_rfl);intro _ q3 k3;show b13 _ _ _ _ 18 (Array.replicate 18 false) _;refine b00 q3 true 0 20 ?_;refine zdU q3 true 1 21 ?_;refine b00 q3 true 2 22 ?_;refine zdU q3 true 3 23 ?_;refine b00 q3 true 4 24 ?_;refine zdU q3 true 5 25 ?_;refine b0z q3 true 6 26 ?_;refine zdU q3 true 7 27 ?_;refine b00 q3 true 8 28 ?_;refine zdU q3 true 9 29 ?_;apply zoc 10 (f1l n ss fl x1 need hS.ds hnd2 hne2);refine zdU q3 true 11 19 ?_;refine zdU q3 true 12 31 ?_;refine zdU q3 true 13 32 ?_;refine zdU q3 true 14 33 ?_;apply b0q 15;apply b0q 16;apply b0q 17;apply b0b (by kernel_rfl);apply k3 _;apply n2 _ _ (b0a [2,5,8,11,12] _);apply (zk);apply yRc [2,5,8,11,12,14] (b91 fl ins ws (by omega) (by omega) hin hwl hwn);apply yRc [2,8,12,14,15,16] (f1u fl (chO n ss fl x1 need) (by omega) (by omega));apply yR [2,8,12,14,16];apply b0e;intros;apply yR [2,8,12,14,16,45,46,47];apply b0g;intros;apply b05 (fun j=>⟨[(2,.int .i64 (Zc k)),(8,.ptr 3 0 0),(12,.ref 4),(14,.ptr 8 0 0),(16,.ref 9),(45,.ref 9),(46,.int .i64 (chN n ss fl x1 need).length),(47,.int .i64 (Zc j))],[eQ,eQ,eQ,bQ 0 1 2,.arr ((chL n ss fl x1 need).map (Za .i64)) .flat,aQ rQa (chF n ss fl x1 need),.arr ((b4i k ins ((chN n ss fl x1 need).take j)).map rQb) .deep,fQ rQc ws,bQ 5 6 7,.arr ((chN n ss fl x1 need).map Zb) .flat],false,61,0⟩) (fun j=>j≤(chN n ss fl x1 need).length) (fun j=>(chN n ss fl x1 need).length - j) 0
 ·apply b1a [2,8,12,14,16,45,46,47] [2,3,4,5,9,18,12,13,17,19];rw [qm4,c5j hS.at_,hfk];rfl
 ·exact qle _
 ·rintro j hok10 Q10 n10 e10 r10;have hj1:j≤(chN n ss fl x1 need).length:=hok10;apply yR [2,8,12,14,16,45,46,47,48];apply b0e;intros;apply b0c _ rfl
  ·intro hc0;have hlt:j < (chN n ss fl x1 need).length:=by omega
   obtain ⟨s,hs⟩:∃s,(chN n ss fl x1 need)[j]? =some s:=⟨_,qla hlt⟩;obtain ⟨h1,h2,h3,h4,h5,h6,h7⟩:=c9k hS hs;apply zn [2,8,12,14,16,45,46,47];apply b0e;intros;apply b0g;intros;have F:=fq3 @qlh (gdm hS.at_) (gdm hs);apply yR [2,8,12,14,16,18,45,46,47];apply yQc [2,8,12,14,16,45,46,47] (g3p (b4i k ins ((chN n ss fl x1 need).take j)) k s x0 x1 x2 (b3l x3 ((chN n ss fl x1 need).take j)) (by omega) (fun y hy=>ql7 (h6 y hy) (by decide)) h4 h1);apply (yV);apply n10 _ (j+1)
   ·apply b1a [2,8,12,14,16,45,46,47] [0,1,2,3,4,5,10,7,8,9];rw [h7];rfl
   ·exact hlt
   ·show _ < _;omega
  ·intro hc0;have hje:(chN n ss fl x1 need).take j=(chN n ss fl x1 need):=ql3 (by omega);apply zn [8,12,14,16];apply yR [8,9,10];apply (zq3);rw [hje,hfk];exact rta
end Go.Proofs.YtmbbjhopngejaaaGreat
