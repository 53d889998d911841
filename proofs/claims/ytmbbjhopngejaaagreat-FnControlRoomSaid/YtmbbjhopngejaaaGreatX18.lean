/- What functions compute. No condition. -/
import Derived.Test.YtmbbjhopngejaaaGreatX17
set_option linter.all false
open List renaming set_cons_zero → Za, set_cons_succ → Zb, pairwise_singleton → Zc, set_append_left → Ze, pairwise_append → Zf, length_nil → Zg, set_set → Zj
open Go.Vm.V renaming int → Zd, str → Zi
open Nat renaming cast → Zh
namespace Go.Proofs.YtmbbjhopngejaaaGreat
open Go Go.Vm Tryz
set_option maxHeartbeats 8000000
theorem f2x (fl:List TA) (order:List Int):b6d fl (b7k order fl.length)=b20 fl order fl.length:=by
  rw [d0q fl order _ (qly _),List.drop_length,qml]
section
variable {n:Int} {ss:List TS} {fl:List TA} {ins:List TI} {k:Nat} {x:TI} {need:List Int} (h:SendOK n ss fl ins k x need)
include h
theorem d6a {j:Nat} {i:Int} (hj:(b3s (chO n ss fl x.2.1 need))[j]? =some i) :
    ∃(m:Nat) (a:TA),i=(m:Int)∧m < fl.length∧(b6d fl ((b3s (chO n ss fl x.2.1 need)).take j))[m]? =some a∧b6d fl ((b3s (chO n ss fl x.2.1 need)).take (j+1))=(b6d fl ((b3s (chO n ss fl x.2.1 need)).take j)).set m (b4m a)∧(chN n ss fl x.2.1 need)[j]? =some a.1:=by
  have hso:=d2y (node:=x.2.1) h.ds h.nd4;have hj0:=hj;rw [hso] at hj⊢;obtain ⟨m,h1,h2,_,h4⟩:=c1p hj;have ha:fl[m]? =some fl[m]:=qla h2;have hg:(b6d fl ((b7k (chO n ss fl x.2.1 need) fl.length).take j))[m]? =some fl[m]:=by
    rw [h4,d0q fl _ m (by omega)];exact c58 ha
  refine ⟨m,fl[m],h1,h2,hg,?_,?_⟩
  · rw [qlx,hj,h1]
    exact d1f _ _ hg
  · rw [c6t,qma,hj,h1]
    show some (nameAt fl (m:Int))=_;rw [nameAt,qlh,ha]
theorem d9a:(b3s (chO n ss fl x.2.1 need)).length=(chN n ss fl x.2.1 need).length:=by
  rw [d2y (node:=x.2.1) h.ds h.nd4,c6t,qlu]
theorem d8n:b6d fl (b3s (chO n ss fl x.2.1 need))=chF n ss fl x.2.1 need:=by
  rw [d2y (node:=x.2.1) h.ds h.nd4];exact f2x fl _
end
set_option maxRecDepth 100000 in
theorem f7m (n:Int) (ss:List TS) (fl:List TA) (ins:List TI) (q:Nat) (x0:Int) (x1:Int) (x2:Bool) (x3:List ByteArray) (need:List Int) (hS:SendOK n ss fl ins q (x0,x1,x2,x3) need):Con prog 39 [.ptr 0 0 0,.pv [tQ n ss] 0 0,.int .i64 (Zh q),.sl (need.map (Zd .i64))] [.box (.agg [slN (fl.map rQa),slN (ins.map rQe),.any]) .deep] (.tup [.ref 1,.ref 2]) [.box (.agg [slN ((chF n ss fl x1 need).map rQa),slN ((b4i q ins (chN n ss fl x1 need)).map rQe),.any]) .deep,.arr ((chN n ss fl x1 need).map Zi) .flat,.arr ((chL n ss fl x1 need).map (Zd .i64)) .flat]:=by
 have hil:=hS.il;have hfl12:=hS.ds.hfl;have hkl:=(qlc.1 hS.at_).1;have hin:∀x∈ins,x.2.2.2.length≤1048576:=fun x hx=>ql7 (hS.nl x hx) (by decide)
 have hnd2:=hS.node;have hne2:=hS.nd4;simp only [] at hnd2;have hcl:=c1y (node:=x1) (need:=need) hS.ds;have hco:=f3x (node:=x1) hS.ds hne2;have hfk:b1w ins.length=.deep:=by unfold b1w;rw [if_neg (by omega)]
 have hnsf:(fl.map rQa).all V.noSl=true:=by rw [qmp,qlk];intro a _;rfl
 have hine:ins.map rQe≠[]:=fun e=>by
  have e2:=congrArg List.length e;rw [qlu,Zg] at e2;omega
 have hms:(chO n ss fl x1 need).foldl (c62 fl) need=(chL n ss fl x1 need):=d53 fl need _;have hok:∀i∈(chO n ss fl x1 need),∃(k:Nat) (a:TA),i=(k:Int)∧fl[k]? =some a∧0≤a.2.1∧a.2.1≤3:=fun i hi=>by
  obtain ⟨q,a,q1,q2,_,_,q5,q6⟩:=d1v hS.ds hne2 hi;exact ⟨q,a,q1,q2,q5,q6⟩
 have hcn:=d9a hS;have hce:=d8n hS;simp only [] at hcn hce;have hso12:(b3s (chO n ss fl x1 need)).length≤12:=by rw [hcn];exact hcl
 apply f3q [.tmp 8,.tmp 9] [(99,[0]),(100,[0])] func39 rfl rfl rfl (by simp [ntmps39]) _ (d8j 0 (fl.map rQa) (ins.map rQe) .deep rfl hnsf (fun e=>absurd e hine) (fun _=>rfl) rfl);intro _ _ r0;simp only [aQ,fQ,ntmps39,b5s,Nat.reduceAdd,Za,Zb,List.cons_append,List.nil_append,List.length_cons,Zg];have T:=tqa (c2r Y3 Y4 Y9 Y24 Y26 Y28 Y29 Y30 Y32 Y41 Y48 Y69) (tq4 Y81 Y96 Y98 b7w);have F:=Fc.mk True.intro;have F:=fq2 @qlh (gdm hS.at_);apply yR [0,1,2,3];apply b0e;intro _ n2 e2 _;apply b1b (by kernel_rfl);intro _ q3 k3;show b13 _ _ _ _ 16 (Array.replicate 16 false) _;refine zdU q3 true 0 15 ?_;refine zdU q3 true 1 16 ?_;refine zdU q3 true 2 17 ?_;refine zdU q3 true 3 18 ?_;refine b00 q3 true 4 19 ?_;refine zdU q3 true 5 20 ?_;refine zdU q3 true 6 21 ?_;refine zdU q3 true 7 22 ?_;refine b00 q3 true 8 23 ?_;refine zdU q3 true 9 24 ?_;refine b0z q3 true 10 25 ?_;refine zdU q3 true 11 26 ?_;refine b00 q3 true 12 27 ?_;refine zdU q3 true 13 28 ?_;apply zoc 14 (d1l n ss fl x1 need hS.ds hnd2 hne2);apply b0q 15;apply b0b (by kernel_rfl);apply k3 _;apply n2 _ _ (b0a [0,2,3,10] _);apply (zk);apply yRc [0,2,10,11] (d0g fl (chO n ss fl x1 need) need (by omega) hco hok hne2);apply yRl [0,2,10,11] (d0f (chO n ss fl x1 need) (by omega));apply yR [0,2,10,11,12];apply b0e;intros;apply yR [0,2,11,12,39,40,41];apply b0g;intros;apply b05 (fun j=>⟨[(0,.ptr 0 0 0),(2,.int .i64 (Zh q)),(11,.ref 3),(12,.ref 4),(39,.ref 5),(40,.int .i64 (b3s (chO n ss fl x1 need)).length),(41,.int .i64 (Zh j))],[.box (.agg [.ref 1,.ref 2,.any]) .mix,aQ rQa (b6d fl ((b3s (chO n ss fl x1 need)).take j)),.arr ((b4i q ins ((chN n ss fl x1 need).take j)).map rQe) .deep,.arr ((chL n ss fl x1 need).map (Zd .i64)) .flat,.arr (((chN n ss fl x1 need).take j).map Zi) .flat,.arr ((b3s (chO n ss fl x1 need)).map (Zd .i64)) .flat],false,81,0⟩) (fun j=>j≤(b3s (chO n ss fl x1 need)).length) (fun j=>(b3s (chO n ss fl x1 need)).length - j) 0
 ·apply b1a [0,2,11,12,39,40,41] [0,1,2,6,7,5];rw [qm4,qm4,c5j hS.at_,hms];rfl
 ·exact qle _
 ·rintro j hok10 Q10 n10 e10 r10;have hj1:j≤(b3s (chO n ss fl x1 need)).length:=hok10;apply yR [0,2,11,12,39,40,41,42];apply b0e;intros;apply b0c _ rfl
  ·intro hc0;have hlt:j < (b3s (chO n ss fl x1 need)).length:=by omega
   obtain ⟨i,hi⟩:∃i,(b3s (chO n ss fl x1 need))[j]? =some i:=⟨_,qla hlt⟩;obtain ⟨m,⟨a0,a1,a2,a3,a4⟩,rfl,hm,ha,hst,hs⟩:=d6a hS hi;simp only [] at hs hst ha;obtain ⟨h1,h2,h3,h4,h5,h6,h7⟩:=c9k hS hs;have hal:(b4i q ins ((chN n ss fl x1 need).take j)).length=ins.length:=c1u ..;have hcp:(b6d fl ((b3s (chO n ss fl x1 need)).take j)).length=fl.length:=c4v ..;have hcp2:(b6d fl ((b3s (chO n ss fl x1 need)).take (j+1))).length=fl.length:=c4v ..;have hsm:((b6d fl ((b3s (chO n ss fl x1 need)).take j)).map rQa).set m (V.agg [Zi a0,Zd .i64 a1,Zd .i64 a2,Zd .i64 a3,Zd .i64 1])=(b6d fl ((b3s (chO n ss fl x1 need)).take (j+1))).map rQa:=by rw [hst,qmx];rfl
   have hgN:(b6d fl ((b3s (chO n ss fl x1 need)).take (j+1)))[m]? =some (a0,a1,a2,a3,1):=by rw [hst];exact qlf (by omega)
   have htn:((chN n ss fl x1 need).take j).map Zi++[Zi a0]=((chN n ss fl x1 need).take (j+1)).map Zi:=(b2t (f:=Zi) hs).symm;apply zn [0,2,11,12,39,40,41];apply b0e;intros;apply b0g;intros;have F:=fq9 @qlh (gdm hS.at_) (gdm hi) hcp (gdm ha) hsm hcp2 (gdm hgN) hal;apply yR [0,2,11,12,14,39,40,41];apply yR [0,2,11,12,14,39,40,41];apply b0e;intro _ n18 _ _;apply b1b (by kernel_rfl);intro _ q19 k19;show b13 _ _ _ _ 15 (Array.replicate 15 false) _;refine zdU q19 true 0 52 ?_;refine zdU q19 true 1 53 ?_;refine zdU q19 true 2 54 ?_;refine b00 q19 true 3 55 ?_;refine zdU q19 true 4 56 ?_;refine b0z q19 true 5 57 ?_;refine zdU q19 true 6 58 ?_;refine zdU q19 true 7 59 ?_;refine zdU q19 true 8 60 ?_;refine b00 q19 true 9 61 ?_;refine zdU q19 true 10 62 ?_;refine b0z q19 true 11 63 ?_;refine zdU q19 true 12 64 ?_;refine b00 q19 true 13 65 ?_;apply b4j 14 rfl (by kernel_rfl);intro K k;simp only [zE,zM,b0x,b0s,b0j,Nat.reduceEqDiff,reduceIte,Nat.reduceLT,implies_true,forall_const,reduceCtorEq,V.ofValue,V.ofScalar,V.un,V.gd,b1c,b3x,b4q,underlying3,Ty.c3,Ty.a3,Ty.b3,Ty.s3,underlying4,Ty.c4,Ty.a4,Ty.b4,Ty.s4,underlying9,Ty.c9,Ty.a9,Ty.b9,Ty.s9,underlying48,Ty.c48,Ty.a48,Ty.b48,Ty.s48,underlying96,Ty.c96,Ty.a96,Ty.b96,Ty.s96];repeat (refine ai (by first | rfl | (intros;simp_all;done)) ?_)
   refine c2n _ (f4x (b4i q ins ((chN n ss fl x1 need).take j)) q a0 x0 x1 x2 (b3l x3 ((chN n ss fl x1 need).take j)) h4 h2 h1 (by omega)) (d0k rfl rfl) rfl ⟨by simp [Blk.kindIs,b02,b1m],by simp⟩ (by first | exact .inl rfl | exact .inr (by simp [Blk.kindIs])) ⟨rfl,by simp [Blk.kindIs,b4c,b7i]⟩ ?_;apply k _;clear k K;simp only [zY,zW,b0j,Nat.reduceEqDiff,reduceIte,c0j,d2m,V.ren,V.renL,Za,Zb,Nat.reduceAdd];apply b0b (by kernel_rfl);apply k19 _;apply n18 _ _ (b0a [0,2,11,12,14,39,40,41] _);apply (zk);apply yQ [0,2,11,12,39,40,41];apply (yV);apply n10 _ (j+1)
   ·apply b1a [0,2,11,12,39,40,41] [0,1,2,3,7,5];rw [h7,htn];rfl
   ·exact hlt
   ·show _ < _;omega
  ·intro hc0;have hje:(chN n ss fl x1 need).take j=(chN n ss fl x1 need):=ql3 (by omega);have hjs:(b3s (chO n ss fl x1 need)).take j=(b3s (chO n ss fl x1 need)):=ql3 (by omega);apply zn [11,12];apply yR [8,9];apply f9k;refine r0 _ _ (d10 (d40 0 1 2 _ _ .deep .any rfl rfl rfl (.inr rfl) rfl (by decide) (by decide) (by decide))) ?_;try simp only [aQ,fQ,Za,Zb,List.cons_append,List.nil_append,List.length_cons,Zg,Nat.reduceAdd]
   apply (zf);rw [hje,hjs,hce];exact rta
theorem g5q {P:Program} {f:FuncId} {l:List TI} {rest:List V} {O O2:List Blk} {n:Int} {q:Nat} (hc:Con P f (sQ rQb l::rest) O (.int .i64 n) O2) (e:n=(q:Int)):Con P f (sQ rQe l::rest) O (.int .i64 (Zh q)) O2:=by
  rw [e] at hc;exact f9e hc
theorem f4t {P:Program} {f:FuncId} {L:List Int} {z:Int} {zl:List Int} {O O2:List Blk} {r:V} (e:L=z::zl) (hc:Con P f [.sl ((z::zl).map (Zd .i64))] O r O2):Con P f [.sl (L.map (Zd .i64))] O r O2:=by rw [e];exact hc
theorem d21 {α:Type} {f:α→V} {l:List α} (e:l.map f=[]):b1w l.length=.flat:=by
  have:l=[]:=List.map_eq_nil_iff.1 e;subst this;rfl
theorem d3o {α:Type} {f:α→V} {l:List α} (e:l.map f≠[]):b1w l.length=.deep:=by
  have:l.length≠0:=fun h=>e (by rw [qlt.1 h];rfl)
  unfold b1w;rw [if_neg this]
theorem d81 {l:List TA}:(l.map rQa).all V.noSl=true:=by rw [qmp,qlk];intro _ _;rfl
set_option maxRecDepth 100000 in
theorem c5a (n:Int) (ss:List TS) (fl:List TA) (ins:List TI) (ws:List TW) (hs:ss.length≤1048576) (hl:fl.length≤1048576) (hls:∀t∈fl,t.1.size≤9223372036854775807) (hil:ins.length≤1048576) (hin:∀x∈ins,x.2.2.2.length≤1048576) (his:∀x∈ins,∀s∈x.2.2.2,s.size≤9223372036854775807) (hwl:ws.length≤1048576) (hwn:∀x∈ws,x.2.length≤1048576):Con prog 21 [tQ n ss,kQ fl ins ws] [] (.tup [.agg [.ref 0,.ref 1,.ref 2],.ref 3,.bool (b3g n ss fl ins ws)]) [aQ rQa (b3r (b3g n ss fl ins ws) (b59 n ss fl ins ws ws.length).1),fQ rQb (b3r (b3g n ss fl ins ws) (b59 n ss fl ins ws ws.length).2.1),fQ rQc (b3r (b3g n ss fl ins ws) (b59 n ss fl ins ws ws.length).2.2.1),.arr ((b3r (b3g n ss fl ins ws) (b59 n ss fl ins ws ws.length).2.2.2).map Zi) .flat]:=by
 apply zcn [.cell 4 32,.tmp 5,.tmp 6] [(39,[0])] func21 ntmps21;intro _ _ _;have T:=tqa (c2r Y3 Y4 Y9 Y24 Y26 Y28 Y29 Y30 Y32 Y41 Y48 Y69) (tq5 Y72 Y81 Y96 Y98 b7w);have F:=Fc.mk True.intro;apply yR [2,3,4];apply b0e;intros;apply d6n [2,3,4,19] (b45 n ss hs) (b4z n ss fl ins ws hs hl hls hil hin his hwl hwn);apply b0c _ rfl
 ·intro hc0;have hB:(b3g n ss fl ins ws)=false:=by
   cases hq:(b3g n ss fl ins ws) with
   |false=>rfl
   |true=>(have ht:=b5b hq;simp [hq,ht] at hc0)
  apply b0e;intro _ n5 _ _;apply (yV);apply n5
  ·apply b0m (b0a [4,5,6] _);simp only [b0r,b0k,b0i,b0f,b0n,Nat.reduceEqDiff,reduceIte];exact b2o _ _
  try simp only [b04,b09,Nat.reduceEqDiff,reduceIte,Za,Zb]
  apply (zq3);simp only [aQ,fQ,hB,b3e,List.map_nil,Zg,b5t];exact rta
 ·intro hc0;have hB:(b3g n ss fl ins ws)=true:=by
   cases hq:(b3g n ss fl ins ws) with
   |true=>rfl
   |false=>simp [hq] at hc0
  have hc:=b5c hB;have hp:=(b36 n ss fl ins ws).1 hB;apply zn [2,3,4];apply yRc [2,4,7] (c7z fl ins ws hl hil hin hwl hwn);apply yR [2,4,7,8];apply yR [2,4,7,8,9];apply b0e;intros;apply b0e;intro _ n11 _ _;apply (yV);apply n11
  ·apply b0m (b0a [2,4,7,8,9,23,24,25] _);simp only [b0r,b0k,b0i,b0f,b0n,Nat.reduceEqDiff,reduceIte];exact b0m (c8r 23 9 (ws.map rQc) (b1w ws.length) rfl rfl ((c0r _).imp id .inl)) (b8a 13 _ (.box (.agg [.ref 7,.ref 8,.any]) .mix) [.agg [.ref 7,.ref 8,.ref 9]] [.agg [.ref 7,.ref 8,.any]] .mix rfl (.inr ⟨_,_,rfl,rfl,rfl,rfl⟩) ⟨.inl rfl,.inl rfl,.inr (.inr rfl),trivial⟩ rfl (by simp [V.cells]))
  try simp only [b04,b09,Nat.reduceEqDiff,reduceIte,Za,Zb]
  apply b0g;intros;apply b05 (fun i=>⟨[(2,.ptr 0 0 0),(4,.ptr 4 0 0),(7,.ptr 5 0 0),(8,.ref 8),(9,.ref 9),(23,sQ rQc ws),(24,.int .i64 ws.length),(25,.int .i64 (Zh i))],[.box (tQ n ss) .shal,eQ,eQ,eQ,bQ 1 2 3,.box (.agg [.ref 6,.ref 7,.any]) .mix,.arr ((b59 n ss fl ins ws i).1.map rQa) .flat,.arr ((b59 n ss fl ins ws i).2.1.map rQe) (b1w (b59 n ss fl ins ws i).2.1.length),.arr ((b59 n ss fl ins ws i).2.2.1.map rQc) (b1w (b59 n ss fl ins ws i).2.2.1.length),.arr ((b59 n ss fl ins ws i).2.2.2.map Zi) .flat],false,58,0⟩) (fun i=>i≤ws.length∧FillInv n ss ins i (b59 n ss fl ins ws i)) (fun i=>ws.length - i) 0
  ·apply b1a [2,4,7,8,9,23,24,25] [0,2,3,4,5,13,7,8,14,15];rfl
  ·exact ⟨qle _,c57 hp⟩
  ·rintro i hok14 Q14 n14 e14 r14;obtain ⟨hi1,hI⟩:=hok14;apply yR [2,4,7,8,9,23,24,25,26];apply b0e;intros;apply b0c _ rfl
   ·intro hc1;have hlt:i < ws.length:=by omega
    obtain ⟨⟨x0,x1⟩,hx⟩:∃x:TW,ws[i]? =some x:=⟨ws[i]'(by omega),qla (by omega)⟩;obtain ⟨q,⟨y0,y1,y2,y3⟩,hk0,hk1,hS,hn4,hfs,hnx⟩:=c5c hp hx (st:=(b59 n ss fl ins ws i)) rfl hI;simp only [] at hk0 hk1 hn4 hfs;obtain ⟨st,hst⟩:∃st,st=(b59 n ss fl ins ws i):=⟨_,rfl⟩;have hI2:=hI;rw [←hst] at hI2 hS hk1 hfs;have hcl4:=(b5z (n:=n) (ss:=ss) (fl:=st.1) (node:=y1) hn4).1;have hcn:=c1y (node:=y1) (need:=x1) hS.ds;have hnl:=hI2.nl;have hwl2:=hI2.wl;have hln:=hI2.len;have hws8:=hp.ws8;have hf1:chF n ss st.1 y1 x1=(b59 n ss fl ins ws (i+1)).1:=by rw [hfs]
    have hf2:b4i q st.2.1 (chN n ss st.1 y1 x1)=(b59 n ss fl ins ws (i+1)).2.1:=by rw [hfs]
    have hf4:st.2.2.2.map Zi++(chN n ss st.1 y1 x1).map Zi=(b59 n ss fl ins ws (i+1)).2.2.2.map Zi:=by rw [←qmu,hfs]
    have hli:st.2.1.length=(b59 n ss fl ins ws (i+1)).2.1.length:=by rw [hln,hnx.len]
    have hclf:=b5z (n:=n) (ss:=ss) (fl:=st.1) (node:=y1) hn4;have hn4c:=c8h hclf;obtain ⟨z,zl,hz⟩:∃z zl,(chL n ss st.1 y1 x1)=z::zl:=by
     cases hc:(chL n ss st.1 y1 x1) with
     |nil=>rw [hc] at hcl4;cases hcl4
     |cons z zl=>exact ⟨z,zl,rfl⟩
    have hmp:0 < b9o zl z↔(chL n ss st.1 y1 x1).all (fun x:Int=>inR x 0 0)=false:=by rw [hz] at hn4c⊢;exact f4r hn4c
    have hzl:(z::zl).length≤1048576:=by rw [←hz];omega
    have hfl12:=hS.ds.hfl;rw [←hst];apply zn [2,4,7,8,9,23,24,25];apply b0e;intros;apply b0g;intros;have F:=Fc.mk (gdm hx);apply yR [2,4,7,8,9,11,23,24,25];apply b0e;intro _ n21 _ _;apply b1b (by kernel_rfl);intro _ q22 k22;show b13 _ _ _ _ 13 (Array.replicate 13 false) _;refine zdU q22 true 0 30 ?_;refine b00 q22 true 1 31 ?_;refine zdU q22 true 2 32 ?_;refine b00 q22 true 3 33 ?_;refine zdU q22 true 5 35 ?_;refine b00 q22 true 6 36 ?_;apply zoc 4 (g5q (b5p st.2.1 x0 (by omega)) hk1);apply b4j 7 rfl (by kernel_rfl);intro K k;simp only [zE,zM,b0x,b0s,b0j,Nat.reduceEqDiff,reduceIte,Nat.reduceLT,implies_true,forall_const,reduceCtorEq,V.ofValue,V.ofScalar,V.un,V.gd,b1c,b3x,b4q,‹Tys _›.h,‹Fc _›.h];repeat (refine d43 ?_)
    refine c7d 5 (d40 5 6 7 _ _ (b1w _) .any rfl rfl rfl (c0r _) rfl (by decide) (by decide) (by decide)) (f7m n ss st.1 st.2.1 q y0 y1 y2 y3 x1 hS) rfl rfl ⟨rfl,by simp⟩ (.inl rfl) ⟨rfl,by simp [Blk.kindIs,b4c]⟩ ?_;apply k _;clear k K;simp only [zY,zW,b0j,Nat.reduceEqDiff,reduceIte,c0j,d2m,V.ren,V.renL,Za,Zb,rho,List.length_set,Nat.reduceAdd,Nat.add_zero];refine zdU q22 true 8 29 ?_;refine zdU q22 true 9 38 ?_;refine zdU q22 true 10 39 ?_;apply b0q 11;apply b0q 12;apply b0b (by kernel_rfl);apply k22 _;apply n21
    ·apply b0m (b0a [2,4,7,8,9,11,12,13,23,24,25] _);simp only [b0r,b0k,b0i,b0f,b0n,Nat.reduceEqDiff,reduceIte];exact d8j 5 ((chF n ss st.1 y1 x1).map rQa) ((b4i q st.2.1 (chN n ss st.1 y1 x1)).map rQe) (b1w (b4i q st.2.1 (chN n ss st.1 y1 x1)).length) rfl d81 d21 d3o rfl
    try simp only [b04,b09,Nat.reduceEqDiff,reduceIte,Za,Zb]
    apply yR [2,4,7,8,9,11,13,23,24,25];apply yRc [2,4,7,8,9,11,13,23,24,25,45] (f4t hz (c40 z zl hzl));apply b0c _ rfl
    ·intro hc2;have hall:(chL n ss st.1 y1 x1).all (fun x:Int=>inR x 0 0)=false:=hmp.1 (by first | omega | (have hq:=of_decide_eq_true hc2;omega));have hf3:(b59 n ss fl ins ws (i+1)).2.2.1=st.2.2.1++[(x0,chL n ss st.1 y1 x1)]:=by rw [hfs];simp [hall]
     have hsn:st.2.2.1.map rQc++[V.agg [Zd .i64 x0,V.sl ((chL n ss st.1 y1 x1).map (Zd .i64))]]=(b59 n ss fl ins ws (i+1)).2.2.1.map rQc:=by rw [hf3];simp only [aQ,fQ,List.map_append];try rfl
     have hkd:st.2.2.1.length+1=(b59 n ss fl ins ws (i+1)).2.2.1.length:=by rw [hf3,qln];rfl
     apply yQ [2,4,7,8,9,23,24,25];apply (yV);apply n14 _ (i+1)
     ·apply b1a [2,4,7,8,9,23,24,25] [0,1,2,3,4,5,14,15,18,16];rw [hf1,hf2,hsn,hf4,hkd];rfl
     ·exact ⟨hlt,hnx⟩
     ·show _ < _;omega
    ·intro hc2;have hall:(chL n ss st.1 y1 x1).all (fun x:Int=>inR x 0 0)=true:=by
      cases h:(chL n ss st.1 y1 x1).all (fun x:Int=>inR x 0 0) with
      |true=>rfl
      |false=>exact absurd (hmp.2 h) (by first | omega | (have hq:=of_decide_eq_false hc2;omega))
     have hf3:st.2.2.1=(b59 n ss fl ins ws (i+1)).2.2.1:=by rw [hfs];simp [hall]
     apply zn [2,4,7,8,9,23,24,25];apply (yV);apply n14 _ (i+1)
     ·apply b1a [2,4,7,8,9,23,24,25] [0,1,2,3,4,5,14,15,8,16];rw [hf1,hf2,hf3,hf4];rfl
     ·exact ⟨hlt,hnx⟩
     ·show _ < _;omega
   ·intro hc1;have hie:i=ws.length:=by omega
    subst hie;apply zn [4,7,8,9];apply yR [4,7,9];apply b0e;intro _ n30 _ _;apply (yV);apply n30
    ·apply b0m (b0a [4,5,6] _);simp only [b0r,b0k,b0i,b0f,b0n,Nat.reduceEqDiff,reduceIte];exact d8f 7 _ _ rfl
    try simp only [b04,b09,Nat.reduceEqDiff,reduceIte,Za,Zb]
    apply (zq3);simp only [hB,b14];exact rta
theorem d1b {vw:Bool} {O:List Blk} (b i j l:Nat) (xs ys zs:List V) (kj kl:Kd) (hb:O[b]? =some (bQ i j l)) (hi:O[i]? =some (.arr xs .flat)) (hj:O[j]? =some (.arr ys kj)) (hl:O[l]? =some (.arr zs kl)) (hkj:kj=.flat∨kj=.deep) (hkl:kl=.flat∨kl=.deep)
    (n1:b≠i) (n2:b≠j) (n3:b≠l) (n4:i≠j) (n5:i≠l) (n6:j≠l) :
    b9y vw O ((((O.set b (.box (.agg [slN xs,slN ys,slN zs]) .deep)).set i .dead).set j .dead).set l .dead):=by
  have lb:b < O.length:=(qlc.1 hb).1;have li:i < O.length:=(qlc.1 hi).1;have lj:j < O.length:=(qlc.1 hj).1;have ll:l < O.length:=(qlc.1 hl).1;let O1:=O.set b (.box (.agg [.ref i,.ref j,.ref l]) .part);have p1:b9y vw O O1:=b64 (by simp [O1]) fun env n mask=>b9v (s:=⟨env,O,vw,n,mask⟩) b _ _ [.agg [.ref i,.ref j,.ref l]] .mix .part hb (.inr ⟨_,_,rfl,rfl,rfl,rfl⟩) (fun _ _ _ _ _ _ h1 _=>d8u rfl h1) (.inl (by simp))
  have h2b:O1[b]? =some (.box (.agg ([]++.ref i::[.ref j,.ref l])) .part):=qlf lb;have h2i:O1[i]? =some (.arr xs .flat):=by simp only [O1];rw [qld n1];exact hi
  have h2j:O1[j]? =some (.arr ys kj):=by simp only [O1];rw [qld n2];exact hj
  have h2l:O1[l]? =some (.arr zs kl):=by simp only [O1];rw [qld n3];exact hl
  let O3:=(O1.set b (.box (.agg ([]++slN xs::[.ref j,.ref l])) .part)).set i .dead;have p3:b9y vw O1 O3:=b64 (by simp [O3]) fun env n mask=>c1t (s:=⟨env,O1,vw,n,mask⟩) b i [] [.ref j,.ref l] xs .flat h2b h2i n1 (.inl rfl)
  have h3b:O3[b]? =some (.box (.agg ([slN xs]++.ref j::[.ref l])) .part):=by simp only [O3];rw [qld n1.symm];exact qlf (by simpa [O1] using lb)
  have h3j:O3[j]? =some (.arr ys kj):=by simp only [O3];rw [qld n4,qld n2];exact h2j
  have h3l:O3[l]? =some (.arr zs kl):=by simp only [O3];rw [qld n5,qld n3];exact h2l
  let O4:=(O3.set b (.box (.agg ([slN xs]++slN ys::[.ref l])) .part)).set j .dead;have p4:b9y vw O3 O4:=b64 (by simp [O4]) fun env n mask=>c1t (s:=⟨env,O3,vw,n,mask⟩) b j [slN xs] [.ref l] ys kj h3b h3j n2 hkj
  have h4b:O4[b]? =some (.box (.agg ([slN xs,slN ys]++.ref l::[])) .part):=by simp only [O4];rw [qld n2.symm];exact qlf (by simpa [O3,O1] using lb)
  have h4l:O4[l]? =some (.arr zs kl):=by simp only [O4];rw [qld n6,qld n3];exact h3l
  let O5:=(O4.set b (.box (.agg ([slN xs,slN ys]++slN zs::[])) .part)).set l .dead;have p5:b9y vw O4 O5:=b64 (by simp [O5]) fun env n mask=>c1t (s:=⟨env,O4,vw,n,mask⟩) b l [slN xs,slN ys] [] zs kl h4b h4l n3 hkl
  have h5b:O5[b]? =some (.box (.agg [slN xs,slN ys,slN zs]) .part):=by simp only [O5];rw [qld n3.symm];exact qlf (by simpa [O4,O3,O1] using lb)
  have p6:b9y vw O5 (O5.set b (.box (.agg [slN xs,slN ys,slN zs]) .deep)):=b64 (by simp) fun env n mask=>b9v (s:=⟨env,O5,vw,n,mask⟩) b _ _ [.agg [slN xs,slN ys,slN zs]] .part .deep h5b (.inr ⟨_,_,rfl,rfl,rfl,rfl⟩) (fun _ _ _ _ _ _ h1 h2=>⟨b5d h1 (by cases xs<;>cases ys<;>cases zs<;>rfl),h2⟩) (.inl (by simp))
  have e:O5.set b (.box (.agg [slN xs,slN ys,slN zs]) .deep)=(((O.set b (.box (.agg [slN xs,slN ys,slN zs]) .deep)).set i .dead).set j .dead).set l .dead:=by
    apply List.ext_getElem?;intro q;simp only [O5,O4,O3,O1,List.getElem?_set,List.length_set]
    by_cases e1:b=q
    · subst e1;simp [n1.symm,n2.symm,n3.symm,lb]
    · by_cases e2:i=q
      · subst e2;simp [e1,n4.symm,n5.symm,li]
      · by_cases e3:j=q
        · subst e3;simp [e1,e2,n6.symm,lj]
        · by_cases e4:l=q
          · subst e4;simp [e1,e2,e3,ll]
          · simp [e1,e2,e3,e4]
  rw [←e];exact p1.trans (p3.trans (p4.trans (p5.trans p6)))
theorem d4o {m:Nat} {s:St} (b:Nat) (xs ys zs:List V) (kj kl:Kd) (hb:s.O[b]? =some (.box (.agg [slN xs,slN ys,slN zs]) .deep)) (hx:xs.all V.noSl=true) (h0:ys=[]→kj=.flat) (h1:ys≠[]→kj=.deep) (g0:zs=[]→kl=.flat) (g1:zs≠[]→kl=.deep) (hv:s.vw=false) :
    b44 m s {s with O:=s.O.set b (.box (.agg [.ref s.O.length,.ref (s.O.length+1),.ref (s.O.length+2)]) .mix)++[.arr xs .flat,.arr ys kj,.arr zs kl]}:=by
  have lb:b < s.O.length:=(qlc.1 hb).1;have w1:=c11 (m:=m) (s:=s) b [] [slN ys,slN zs] xs .deep .flat hb (.inl rfl) (fun _=>rfl) (fun _=>.inr ⟨rfl,hx⟩) hv;let s1:St:={s with O:=s.O.set b (.box (.agg ([]++.ref s.O.length::[slN ys,slN zs])) .part)++[.arr xs .flat]}
  have hl1:s1.O.length=s.O.length+1:=by simp [s1]
  have hb1:s1.O[b]? =some (.box (.agg ([.ref s.O.length]++slN ys::[slN zs])) .part):=by
    show (s.O.set b _++[_])[b]? =_;rw [qls (by simpa using lb),qlf lb];rfl
  have w2:=c11 (m:=m) (s:=s1) b [.ref s.O.length] [slN zs] ys .part kj hb1 (.inr rfl) h0 (fun q=>.inl (h1 q)) hv;let s2:St:={s1 with O:=s1.O.set b (.box (.agg ([.ref s.O.length]++.ref s1.O.length::[slN zs])) .part)++[.arr ys kj]}
  have hl2:s2.O.length=s.O.length+2:=by simp [s2,hl1]
  have hb2:s2.O[b]? =some (.box (.agg ([.ref s.O.length,.ref s1.O.length]++slN zs::[])) .part):=by
    show (s1.O.set b _++[_])[b]? =_;rw [qls (by rw [qlr,hl1];omega),qlf (by rw [hl1];omega)];rfl
  have w3:=c11 (m:=m) (s:=s2) b [.ref s.O.length,.ref s1.O.length] [] zs .part kl hb2 (.inr rfl) g0 (fun q=>.inl (g1 q)) hv;let s3:St:={s2 with O:=s2.O.set b (.box (.agg ([.ref s.O.length,.ref s1.O.length]++.ref s2.O.length::[])) .part)++[.arr zs kl]}
  have hb3:s3.O[b]? =some (.box (.agg [.ref s.O.length,.ref s1.O.length,.ref s2.O.length]) .part):=by
    show (s2.O.set b _++[_])[b]? =_;rw [qls (by rw [qlr,hl2];omega),qlf (by rw [hl2];omega)];rfl
  have w4:=f2c (m:=m) (s:=s3) b _ (.box (.agg [.ref s.O.length,.ref s1.O.length,.ref s2.O.length]) .mix) [.agg [.ref s.O.length,.ref s1.O.length,.ref s2.O.length]] hb3 (.inr ⟨_,_,rfl,rfl,rfl,rfl⟩) rfl;have w:=b0m w1 (b0m w2 (b0m w3 w4));have e:s3.O.set b (.box (.agg [.ref s.O.length,.ref s1.O.length,.ref s2.O.length]) .mix)=s.O.set b (.box (.agg [.ref s.O.length,.ref (s.O.length+1),.ref (s.O.length+2)]) .mix)++[.arr xs .flat,.arr ys kj,.arr zs kl]:=by
    simp only [s3,s2,s1,hl2,hl1];rw [Ze _ _ (by simp;omega),Zj,Ze _ _ (by simp;omega),Zj,Ze _ _ (by simpa using lb),Zj,ql5,ql5];simp
  rw [e] at w;exact w
def b7o (ins:List TI):Int:=match ins[ins.length - 1]? with | some x=>x.1+1 | none=>1
def opB (ins:List TI):Bool:=decide (ins.length < 8) && decide (b7o ins≤999)
def b9q (ins:List TI) (node:Int):TI:=(b7o ins,node,false,[])
section
variable {n:Int} {ss:List TS} {fl:List TA} {ins:List TI} {ws:List TW} {node:Int}
theorem f8n (h:IncsProp ins):(∀x∈ins,x.1 < b7o ins)∧1≤b7o ins:=by
  rw [b7o];rcases ql8 ins.length with q | q
  · obtain rfl:ins=[]:=qlt.1 q
    exact ⟨(fun _ hx=>nomatch hx),by decide⟩
  · have hl:ins[ins.length - 1]? =some (ins[ins.length - 1]'(by omega)):=qla (by omega)
    rw [hl];simp only;refine ⟨fun x hx=> ?_,?_⟩
    · obtain ⟨i,hi,rfl⟩:=ql0.1 hx
      rcases qmk i (ins.length - 1) with e | e
      · have:=ql6.1 h.num i (ins.length - 1) hi (by omega) e
        omega
      · have:i=ins.length - 1:=by omega
        subst this;exact Int.lt_succ _
    · have:=(h.each _ (List.getElem_mem (show ins.length - 1 < ins.length by omega))).num
      omega
theorem g3y (h:IncsProp ins) (hn:0≤node∧node≤13):c4a (ins++[b9q ins node])=opB ins:=by
  have hg:=f8n h;rw [Bool.eq_iff_iff,c8p,opB,qlg,decide_eq_true_eq,decide_eq_true_eq];constructor
  · intro q
    have h1:=q.len;have h2:=(q.each (b9q ins node) (by simp)).num;rw [qln,ql1] at h1;exact ⟨by omega,h2.2⟩
  · rintro ⟨h1,h2⟩
    refine ⟨fun x hx=> ?_,?_,?_,?_⟩
    · rcases qll.1 hx with q | q
      · exact h.each x q
      · rw [qlm] at q;subst q
        exact ⟨⟨hg.2,h2⟩,hn,qle _,fun _=>rfl,(fun _ hs=>nomatch hs),List.Pairwise.nil⟩
    · refine Zf.2 ⟨h.num,Zc ..,fun x hx y hy=> ?_⟩
      rw [qlm] at hy;subst hy;exact hg.1 x hx
    · refine Zf.2 ⟨h.dis,Zc ..,fun x hx y hy=> ?_⟩
      rw [qlm] at hy;subst hy;intro _ hs;cases hs
    · rw [qln,ql1];omega
theorem d41 (h:CtlProp n ss fl ins ws) (hn:0≤node∧node < n) (hnn:n≤14) (ho:opB ins=true):CtlProp n ss fl (ins++[b9q ins node]) ws:=by
  have hi:IncsProp (ins++[b9q ins node]):=(c8p _).1 (by rw [g3y h.inc ⟨hn.1,by omega⟩];exact ho);have hm:∀x∈ins++[b9q ins node],x∈ins∨x=b9q ins node:=fun x hx=>by
    rcases qll.1 hx with q | q
    · exact .inl q
    · exact .inr (qlm.1 q)
  refine ⟨h.town,h.ap,h.srt,h.fl12,h.has,hi,h.ws8,fun x hx=> ?_,fun x hx s hs=> ?_,fun a ha=> ?_,fun w hw=> ?_,h.wsrt⟩
  · rcases hm x hx with q | q
    · exact h.node x q
    · subst q;exact hn
  · rcases hm x hx with q | q
    · exact h.names x q s hs
    · subst q;cases hs
  · rw [h.busy a ha]
    constructor
    · rintro ⟨x,hx,hs⟩;exact ⟨x,qmb _ hx,hs⟩
    · rintro ⟨x,hx,hs⟩
      rcases hm x hx with q | q
      · exact ⟨x,q,hs⟩
      · subst q;cases hs
  · obtain ⟨⟨x,hx,e⟩,r⟩:=h.want w hw
    exact ⟨⟨x,qmb _ hx,e⟩,r⟩
theorem g4d {m:Int} {left:List Int} (h:CtlProp n ss fl ins ws) (ho:∃x∈ins,x.1=m∧x.2.2.1=false) (hl:b3c left=true) (hlt:∀w∈ws,w.1 < m):b3g n ss fl ins (ws++[(m,left)])=decide (ws.length < 8):=by
  rw [Bool.eq_iff_iff,b36,decide_eq_true_eq];constructor
  · intro q
    have:=q.ws8;rw [qln,ql1] at this;omega
  · intro q
    refine ⟨h.town,h.ap,h.srt,h.fl12,h.has,h.inc,by rw [qln,ql1];omega,h.node,h.names,h.busy,fun w hw=> ?_,?_⟩
    · rcases qll.1 hw with e | e
      · exact h.want w e
      · rw [qlm] at e;subst e;exact ⟨ho,hl⟩
    · refine Zf.2 ⟨h.wsrt,Zc ..,fun x hx y hy=> ?_⟩
      rw [qlm] at hy;subst hy;exact hlt x hx
end
def tkI (n:Int) (ss:List TS) (fl:List TA) (ins:List TI) (node:Int) (need:List Int):List TI:=b4i ins.length (ins++[b9q ins node]) (chN n ss fl node need)
def tkZ (n:Int) (ss:List TS) (fl:List TA) (node:Int) (need:List Int):Bool:=(chL n ss fl node need).all fun x:Int=>inR x 0 0
def tkW (n:Int) (ss:List TS) (fl:List TA) (ins:List TI) (ws:List TW) (node:Int) (need:List Int):List TW:=if tkZ n ss fl node need=true then ws else ws++[(b7o ins,chL n ss fl node need)]
section
variable {n:Int} {ss:List TS} {fl:List TA} {ins:List TI} {ws:List TW} {node:Int} {need:List Int}
theorem new_at:(ins++[b9q ins node])[ins.length]? =some (b9q ins node):=by simp
theorem g36 (h:CtlProp n ss fl ins ws) (hn:0≤node∧node < n) (hnn:n≤14) (ho:opB ins=true) (hd:need.length=4∧∀v∈need,0≤v∧v≤6):SendOK n ss fl (ins++[b9q ins node]) ins.length (b9q ins node) need:=
  d65 (d41 h hn hnn ho) new_at hd
theorem f8k:(tkI n ss fl ins node need).length=ins.length+1:=by rw [tkI,c1u,qln,ql1]
section
variable (h:CtlProp n ss fl ins ws) (hn:0≤node∧node < n) (hnn:n≤14) (ho:opB ins=true) (hd:need.length=4∧∀v∈need,0≤v∧v≤6)
include h hn hnn ho hd
theorem d75:CtlProp n ss (chF n ss fl node need) (tkI n ss fl ins node need) ws:=by
  have q:=d44 (d41 h hn hnn ho) (x:=b9q ins node) (need:=need) new_at rfl hd;rw [show (b9q ins node).2.1=node from rfl] at q;rw [tkI];exact q
theorem c8q :
    b3g n ss (chF n ss fl node need) (tkI n ss fl ins node need) (tkW n ss fl ins ws node need)=(tkZ n ss fl node need || decide (ws.length < 8)):=by
  have hk:=d75 h hn hnn ho hd;rw [tkW];cases hz:tkZ n ss fl node need with
  | true=>rw [if_pos rfl];exact (b36 ..).2 hk
  | false=>
    rw [if_neg (by decide),Bool.false_or];have hl:=c8h (b5z (n:=n) (ss:=ss) (fl:=fl) (node:=node) hd);refine g4d hk ?_ ?_ fun w hw=> ?_
    · refine ⟨(b7o ins,node,false,b3l [] (chN n ss fl node need)),?_,rfl,rfl⟩
      rw [tkI];exact qlb (c5l new_at _)
    · rw [b3c,hl]
      show (!tkZ n ss fl node need)=true;rw [hz];rfl
    · obtain ⟨⟨x,hx,e,_⟩,_⟩:=h.want w hw
      rw [←e];exact (f8n h.inc).1 x hx
end
end
theorem c71 (l:List (Int×Int×Int×Int×Int×Int×List Int)) (g:Nat) (caps:List V) (p:Int×Int×Int×Int×Int×Int×List Int→Bool) (hl:l.length≤1048576) (hc:Caps caps) (hg:∀x0 x1 x2 x3 x4 x5 x6,(x0,x1,x2,x3,x4,x5,x6)∈l→Con prog g (V.agg [Zd .i64 x0,Zd .i64 x1,Zd .i64 x2,Zd .i64 x3,Zd .i64 x4,Zd .i64 x5,V.sl (x6.map (Zd .i64))]::caps) [] (.bool (p (x0,x1,x2,x3,x4,x5,x6))) []):Con prog 136 [sQ rQf l,.fn g caps] [] (.int .i64 (b2r p 0 l)) []:=by
 apply zcn [.tmp 4] [] func136 ntmps136;intro _ _ _;have T:=tq5 Y3 Y4 Y27 Y41 Y93;have F:=Fc.mk True.intro;apply yR [0,1];apply b0e;intros;apply yR [0,1,7,8];apply b0g;intro _ _ x4 _ _;apply b05 (fun i=>⟨[(0,sQ rQf l),(1,.fn g caps),(7,.int .i64 l.length),(8,.int .i64 (Zh i))],[],false,19,0⟩) (fun i=>i≤l.length∧b2r p i (l.drop i)=b2r p 0 l) (fun i=>l.length - i) 0
 ·refine b18 [0,1,7,8] ?_;simp only [b0r,b0k,b0i,b0f,b0n,Nat.reduceEqDiff,reduceIte];rfl
 ·exact ⟨qle _,rfl⟩
 ·rintro i hok5 Q5 n5 e5 r5;obtain ⟨hi1,hR⟩:=hok5;apply yR [0,1,7,8,9];apply b0e;intros;apply b0c _ rfl
  ·intro hc0;have hlt:i < l.length:=by omega
   obtain ⟨⟨x0,x1,x2,x3,x4,x5,x6⟩,hx⟩:∃x:Int×Int×Int×Int×Int×Int×List Int,l[i]? =some x:=⟨l[i]'(by omega),qla (by omega)⟩;have hst:=b5j (p:=p) hx;apply zn [0,1,7,8];apply b0e;intros;apply b0g;intros;have F:=Fc.mk (gdm hx);apply yR [0,1,5,7,8];apply b1l [0,1,5,7,8,16];intro _ k12;apply (zq8);apply (f9c);apply zcc (hg x0 x1 x2 x3 x4 x5 x6 (qlb hx));apply k12 _;apply (zk);apply b0c _ rfl
   ·intro hc1;apply yR [4];apply (zr);exact b0h rfl (by rw [←hR,hst,if_pos hc1]) (.inl rfl)
   ·intro hc1;apply zn [0,1,7,8];apply (yV);apply n5 _ (i+1)
    ·apply b4e [0,1,7,8] [];rfl
    ·exact ⟨by omega,by rw [←hR,hst,if_neg (by simp [hc1])]⟩
    ·show _ < _;omega
  ·intro hc0;apply zn [];apply yR [4];apply (zr);exact b0h rfl (by rw [←hR,b6g (by omega)]) (.inl rfl)
end Go.Proofs.YtmbbjhopngejaaaGreat
