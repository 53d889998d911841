/- What functions compute. No condition. -/
import Derived.Test.YtmbbjhopngejaaaGreatX12
set_option linter.all false
open List renaming replicate → Za, set_cons_zero → Zb, set_cons_succ → Zd, drop_eq_getElem_cons → Zf, getElem_set_self → Zh, any_eq_true → Zi, pairwise_cons → Zj, any_eq_false → Zk, mem_filter → Zl, length_filter_le → Zm, getElem_of_mem → Zn, getElem_set_ne → Zo
open Bool renaming and_eq_true → Zc, not_eq_true' → Ze
open Go.Vm.V renaming int → Zg, agg → Zp
namespace Go.Proofs.YtmbbjhopngejaaaGreat
open Go Go.Vm
set_option maxHeartbeats 8000000
theorem c5o {α:Type} {ok:α→Bool} {bf:α→α→Bool} (tr:∀x y z,bf x y=true→bf y z=true→bf x z=true):∀(l:List α) (p:Option α),b2j ok bf p l=true↔(∀x∈l,ok x=true)∧(l.Pairwise fun x y=>bf x y=true)∧∀q,p=some q→∀x∈l,bf q x=true
  | [],p=>by simp [b2j]
  | x ::l,p=>by
    have ih:=c5o (ok:=ok) tr l (some x);have h2:b2j ok bf p (x::l)=true↔ok x=true∧(∀q,p=some q→bf q x=true)∧b2j ok bf (some x) l=true:=by
      cases p with
      | none=>simp [b2j]
      | some r=>simp [b2j,and_assoc]
    rw [h2,ih,Zj];constructor
    · grind
    grind
theorem d4q {α:Type} {ok:α→Bool} {bf:α→α→Bool} (tr:∀x y z,bf x y=true→bf y z=true→bf x z=true) (l:List α):b11 ok bf l 0=true↔(∀x∈l,ok x=true)∧l.Pairwise fun x y=>bf x y=true:=by
  grind[c5o,b11,b2j]
theorem c85 {α:Type} {R:α→α→Prop} (tr:∀x y z,R x y→R y z→R x z):∀(l:List α),(∀(i:Nat) (x y:α),l[i]? =some x→l[i+1]? =some y→R x y)→l.Pairwise R
  | [],_=>.nil
  | [x],_=>List.pairwise_singleton ..
  | x::y::l,h=>by
    have ih:=c85 tr (y::l) fun i a b ha hb=>h (i+1) a b (by grind) (by grind)
    refine Zj.2 ⟨fun z hz=> ?_,ih⟩;have hxy:=h 0 x y rfl rfl;rcases qlv.1 hz with rfl | hz
    · omega
    grind[Zj]
theorem b85 {α:Type} {R:α→α→Prop} {l:List α} (h:l.Pairwise R) {i j:Nat} {x y:α} (hi:l[i]? =some x) (hj:l[j]? =some y) (hij:i < j):R x y:=by
  obtain ⟨h1,rfl⟩:=qlc.1 hi;obtain ⟨h2,rfl⟩:=qlc.1 hj
  grind[List.pairwise_iff_getElem]
theorem f0y (a b c:ByteArray) (h:b2v a b=true) (k:b2v b c=true):b2v a c=true:=b8n h k
structure IncProp (x:TI):Prop where
  num:1≤x.1∧x.1≤999
  node:0≤x.2.1∧x.2.1≤13
  len:x.2.2.2.length≤12
  closed:x.2.2.1=true→x.2.2.2=[]
  nm:∀s∈x.2.2.2,b6a s=true
  srt:x.2.2.2.Pairwise fun a b=>b2v a b=true
theorem d32 (x:TI):c21 x=true↔IncProp x:=by
  simp only [c21,Zc,decide_eq_true_eq,Ze,decide_eq_false_iff_not,d4q f0y,Bool.and_eq_false_imp];constructor
  · rintro ⟨⟨⟨⟨h1,h2⟩,h3⟩,h4⟩,h5,h6⟩
    exact ⟨h1,h2,by omega,fun q=>by simp_all,h5,h6⟩
  · intro h
    refine ⟨⟨⟨⟨h.num,h.node⟩,by have:=h.len;omega⟩,fun q=> ?_⟩,h.nm,h.srt⟩;rw [h.closed q];simp
theorem c1r (s:ByteArray) (l:List ByteArray):inS s l=true↔s∈l:=by
  simp [inS]
structure IncsProp (l:List TI):Prop where
  each:∀x∈l,IncProp x
  num:l.Pairwise fun x y=>x.1 < y.1
  dis:l.Pairwise fun x y=>∀s∈y.2.2.2,s ∉ x.2.2.2
  len:l.length≤8
theorem d5d (pre:List TI) (x:TI):b89 pre x=false↔∀y∈pre,∀s∈x.2.2.2,s ∉ y.2.2.2:=by
  rw [b89,Zk];constructor
  · intro h y _ s hs _
    have:=h s hs;rw [Bool.not_eq_true,Zk] at this
    grind[c1r]
  · intro h s hs
    rw [Bool.not_eq_true,Zk]
    grind[c1r]
theorem c8p (l:List TI):c4a l=true↔IncsProp l:=by
  rw [c4a,qlg,qlk,decide_eq_true_eq];constructor
  · rintro ⟨h,h8⟩
    have hp:∀(i:Nat) (x:TI),l[i]? =some x→IncProp x∧(∀(j:Nat) (y:TI),i=j+1→l[j]? =some y→y.1 < x.1)∧∀y∈l.take i,∀s∈x.2.2.2,s ∉ y.2.2.2:=by
      intro i x hx;have hi:=(qlc.1 hx).1;have:=h i (qmc.2 hi);rw [c3a,hx] at this;simp only [Zc,Ze] at this;refine ⟨(d32 x).1 this.1.1,fun j y hj hy=> ?_,(d5d _ _).1 this.2⟩
      grind
    refine ⟨fun x hx=> ?_,c85 (fun x y z a b=>by omega) l fun i x y hx hy=>(hp (i+1) y hy).2.1 i x rfl hx,?_,by omega⟩
    · obtain ⟨i,hi,rfl⟩:=Zn hx
      exact (hp i _ (qla hi)).1
    · refine ql6.2 fun i j hi hj hij=> ?_
      refine (hp j _ (qla hj)).2.2 _ ?_;rw [ql0];exact ⟨i,by rw [qlj];omega,by rw [List.getElem_take]⟩
  · intro h
    refine ⟨fun i hi=> ?_,by have:=h.len;omega⟩;have hi:=qmc.1 hi;rw [c3a,qla hi];simp only [Zc,Ze];refine ⟨⟨(d32 _).2 (h.each _ (List.getElem_mem hi)),?_⟩,(d5d _ _).2 fun y hy=> ?_⟩
    · rcases ql8 i with q | q
      · grind
      · rw [decide_eq_false (by omega),Bool.false_or,qla (show i - 1 < l.length by omega)]
        simp only [decide_eq_true_eq];exact ql6.1 h.num (i - 1) i (by omega) hi (by omega)
    · obtain ⟨j,hj,rfl⟩:=ql0.1 hy
      rw [qlj] at hj;rw [List.getElem_take];exact ql6.1 h.dis j i (by omega) hi (by omega)
theorem c4t (fl:List TA) (s:ByteArray):0≤b4l fl s↔∃a∈fl,a.1=s:=by
  constructor
  · grind[c02,List.mem_of_getElem?]
  · rintro ⟨a,ha,rfl⟩
    have:=c2a (fun x:TA=>decide (x.1=a.1)) fl 0;have h2:(fl.any fun x:TA=>decide (x.1=a.1))=true:=Zi.2 ⟨a,ha,by simp⟩;rw [h2,decide_eq_true_eq] at this;exact this
theorem d0h (ins:List TI) (s:ByteArray):0≤b6k ins s↔∃x∈ins,s∈x.2.2.2:=by
  have:=d3n ins s;constructor
  · grind[decide_eq_true,Zi,c1r]
  · rintro ⟨x,hx,hs⟩
    have h2:(ins.any fun y=>inS s y.2.2.2)=true:=Zi.2 ⟨x,hx,(c1r _ _).2 hs⟩
    grind
theorem b8h (ins:List TI) (n:Int):0≤b3j ins n↔∃x∈ins,x.1=n∧x.2.2.1=false:=by
  have:=c2a (fun x:TI=>decide (x.1=n) && !x.2.2.1) ins 0;have e:b3j ins n=b2r (fun x:TI=>decide (x.1=n) && !x.2.2.1) 0 ins:=rfl
  grind
structure CtlProp (n:Int) (ss:List TS) (fl:List TA) (ins:List TI) (ws:List TW):Prop where
  town:c0c n ss=true
  ap:∀a∈fl,c3f a=true
  srt:fl.Pairwise fun x y=>b2v x.1 y.1=true
  fl12:fl.length≤12
  has:∀a∈fl,0≤a.2.2.1∧a.2.2.1 < n
  inc:IncsProp ins
  ws8:ws.length≤8
  node:∀x∈ins,0≤x.2.1∧x.2.1 < n
  names:∀x∈ins,∀s∈x.2.2.2,∃a∈fl,a.1=s
  busy:∀a∈fl,(1≤a.2.2.2.2∧a.2.2.2.2≤3)↔∃x∈ins,a.1∈x.2.2.2
  want:∀w∈ws,(∃x∈ins,x.1=w.1∧x.2.2.1=false)∧b3c w.2=true
  wsrt:ws.Pairwise fun x y=>x.1 < y.1
theorem b36 (n:Int) (ss:List TS) (fl:List TA) (ins:List TI) (ws:List TW):b3g n ss fl ins ws=true↔CtlProp n ss fl ins ws:=by
  have hbz:∀a:TA,b57 ins a=true↔((1≤a.2.2.2.2∧a.2.2.2.2≤3)↔∃x∈ins,a.1∈x.2.2.2):=by
    grind[b57,d0h,c19,b6k]
  have hw:(List.range ws.length).all (b6j ins ws)=true↔(∀w∈ws,(∃x∈ins,x.1=w.1∧x.2.2.1=false)∧b3c w.2=true)∧ws.Pairwise fun x y=>x.1 < y.1:=by
    rw [qlk];constructor
    · intro h
      have hp:∀(i:Nat) (w:TW),ws[i]? =some w→(0≤b3j ins w.1∧b3c w.2=true)∧∀(j:Nat) (y:TW),i=j+1→ws[j]? =some y→y.1 < w.1:=by
        intro i w hx;have:=h i (qmc.2 (qlc.1 hx).1);rw [b6j,hx] at this
        grind
      refine ⟨fun w hw=> ?_,c85 (fun x y z a b=>by omega) ws fun i x y hx hy=>(hp (i+1) y hy).2 i x rfl hx⟩;obtain ⟨i,hi,rfl⟩:=Zn hw;have:=(hp i _ (qla hi)).1
      grind[b8h]
    · rintro ⟨h1,h2⟩ i hi
      have hi:=qmc.1 hi;rw [b6j,qla hi];simp only [Zc,decide_eq_true_eq];have hw:=h1 _ (List.getElem_mem hi);refine ⟨⟨(b8h _ _).2 hw.1,hw.2⟩,?_⟩;rcases ql8 i with q | q
      · grind
      · rw [decide_eq_false (by omega),Bool.false_or,qla (show i - 1 < ws.length by omega)]
        simp only [decide_eq_true_eq];exact ql6.1 h2 (i - 1) i (by omega) hi (by omega)
  rw [b3g,d3r,dsB,qlg,qlg,qlg,qlg,qlg,qlg,qlg,c8p,hw,qlk,qlk,qlk,b6e,qlg,
    d4q (bf:=c59) (fun a b c h k=>b8n (show b2v a.1 b.1=true from h) (show b2v b.1 c.1=true from k)),decide_eq_true_eq,Ze,decide_eq_false_iff_not]
  constructor
  · rintro ⟨⟨⟨⟨⟨⟨⟨h1,⟨h2,h3⟩,h4⟩,h5⟩,h6⟩,h7⟩,h8⟩,h9⟩,h10,h11⟩
    have hn:=(b74 h1).1;refine ⟨h1,h2,h3,by omega,fun a ha=> ?_,h6,by omega,fun x hx=> ?_,fun x hx s hs=> ?_,fun a ha=>(hbz a).1 (h9 a ha),h10,h11⟩
    · grind[b6f]
    · have:=h8 x hx
      simp_all[inP,Zc,b6f]
    · have:=h8 x hx
      rw [inP,qlg,qlk] at this
      grind[c4t]
  · intro h
    have hn:=(b74 h.town).1;refine ⟨⟨⟨⟨⟨⟨⟨h.town,⟨h.ap,h.srt⟩,by have:=h.fl12;omega⟩,fun a ha=> ?_⟩,h.inc⟩,by have:=h.ws8;omega⟩,fun x hx=> ?_⟩,fun a ha=>(hbz a).2 (h.busy a ha)⟩,h.want,h.wsrt⟩
    · rw [b6f hn]
      simpa using h.has a ha
    · rw [inP,qlg,qlk,b6f hn]
      exact ⟨by simpa using h.node x hx,fun s hs=>by simpa using (c4t _ _).2 (h.names x hx s hs)⟩
theorem c4i {fl:List TA} (hs:fl.Pairwise fun x y=>b2v x.1 y.1=true) {i j:Nat} {a b:TA} (hi:fl[i]? =some a) (hj:fl[j]? =some b) (e:a.1=b.1):i=j:=by
  grind[Nat.lt_trichotomy,b85,b7c]
theorem c0n {α:Type} {l:List α} {k:Nat} {y z:α} (h:z∈l.set k y):z=y∨∃i,i≠k∧l[i]? =some z:=by
  obtain ⟨i,hi,rfl⟩:=ql0.1 h;rw [qlr] at hi;rw [List.getElem_set]
  by_cases e:k=i
  · grind
  · right;rw [if_neg e];exact ⟨i,fun q=>e q.symm,qla hi⟩
theorem c0w {α:Type} {R:α→α→Prop} {l:List α} {k:Nat} {x y:α} (h:l.Pairwise R) (hx:l[k]? =some x) (h1:∀z,R z x→R z y) (h2:∀z,R x z→R y z):(l.set k y).Pairwise R:=by
  refine ql6.2 fun i j hi hj hij=> ?_
  rw [qlr] at hi hj;have hk:=(qlc.1 hx);obtain ⟨hkl,hkx⟩:=hk;have hp:=ql6.1 h
  grind
theorem g38 {n:Int} {ss:List TS} {fl:List TA} {ins:List TI} {ws:List TW} (h:CtlProp n ss fl ins ws) {k:Nat} {a:TA} {nd st:Int} (hk:fl[k]? =some a) (hn:0≤nd∧nd < n) (hs:0≤st∧st≤5) (hb:(1≤st∧st≤3)↔∃x∈ins,a.1∈x.2.2.2) :
    CtlProp n ss (fl.set k (a.1,a.2.1,nd,a.2.2.2.1,st)) ins ws:=by
  have hn14:=(b74 h.town).1;have hao:=h.ap a (qlb hk);refine ⟨h.town,fun b hb2=> ?_,c0w h.srt hk (fun z q=>q) (fun z q=>q),by rw [qlr];exact h.fl12,fun b hb2=> ?_,h.inc,h.ws8,h.node,fun x hx s hs2=> ?_,fun b hb2=> ?_,h.want,h.wsrt⟩
  · rcases c0n hb2 with e | ⟨i,_,hi⟩
    · subst e
      simp only [c3f,Zc,decide_eq_true_eq] at hao⊢;refine ⟨⟨⟨⟨hao.1.1.1.1,hao.1.1.1.2⟩,?_⟩,hao.1.2⟩,hs⟩;omega
    · exact h.ap b (qlb hi)
  · rcases c0n hb2 with e | ⟨i,_,hi⟩
    · subst e;exact hn
    · exact h.has b (qlb hi)
  · obtain ⟨b,hb2,e⟩:=h.names x hx s hs2
    obtain ⟨i,hi,rfl⟩:=ql0.1 hb2
    by_cases q:i=k
    · subst q
      refine ⟨_,ql0.2 ⟨i,by rw [qlr];exact hi,Zh ..⟩,?_⟩;rw [←e,←(qlc.1 hk).2]
    · exact ⟨fl[i],ql0.2 ⟨i,by rw [qlr];exact hi,Zo (fun z=>q z.symm) _⟩,e⟩
  · rcases c0n hb2 with e | ⟨i,_,hi⟩
    · subst e;exact hb
    · exact h.busy b (qlb hi)
theorem d59 {ins:List TI} (hd:ins.Pairwise fun x y=>∀s∈y.2.2.2,s ∉ x.2.2.2) {i j:Nat} {x y:TI} {s:ByteArray} (hi:ins[i]? =some x) (hj:ins[j]? =some y) (hx:s∈x.2.2.2) (hy:s∈y.2.2.2):i=j:=by
  rcases Nat.lt_trichotomy i j with h | h | h
  · exact absurd hx (b85 hd hi hj h s hy)
  · exact h
  · exact absurd hy (b85 hd hj hi h s hx)
theorem f7u {n:Int} {ss:List TS} {fl:List TA} {ins:List TI} {ws:List TW} {s:ByteArray} (hB:b3g n ss fl ins ws=true) (hA:d23 fl s=true):b3g n ss (g0h fl ins s) ins ws=true:=by
  have h:=(b36 ..).1 hB;rw [d23,qlg,decide_eq_true_eq,decide_eq_true_eq] at hA;obtain ⟨k,a,hk,hks,hkf⟩:=c02 hA.1;have hst:=c9h hkf hk;have h2:a.2.2.2.2=2:=by rw [←hst];exact hA.2
  have hbz:=(h.busy a (qlb hk)).1 (by omega);have hcm:0≤b6k ins s:=(d0h _ _).2 (by rw [←hks];exact hbz);obtain ⟨m,x,hm,_,hmf⟩:=c8n hcm;rw [f5x hkf hk hmf hm];exact (b36 ..).2 (g38 h hk (h.node x (qlb hm)) (by omega) ⟨fun _=>hbz,fun _=>by omega⟩)
theorem f9p {x:TI} {s:ByteArray} (h:IncProp x):IncProp (x.1,x.2.1,x.2.2.1,x.2.2.2.filter fun y=> !decide (y=s)):=by
  refine ⟨h.num,h.node,ql7 (Zm ..) h.len,fun q=> ?_,fun y hy=>h.nm y (Zl.1 hy).1,h.srt.filter _⟩;show (x.2.2.2.filter _)=[];rw [h.closed q];rfl
theorem d2h {s t:ByteArray} {l:List ByteArray}:t∈l.filter (fun y=> !decide (y=s))↔t∈l∧t≠s:=by
  rw [Zl];simp
theorem g49 {n:Int} {ss:List TS} {fl:List TA} {ins:List TI} {ws:List TW} {s:ByteArray} {t:Int} (hB:b3g n ss fl ins ws=true) (hA:d8g fl s t=true):b3g n ss (f9i fl s t) (g5e ins s t) ws=true:=by
  have h:=(b36 ..).1 hB;rw [d8g,d48,qlg,qlg,qlg,qlg,decide_eq_true_eq,decide_eq_true_eq,decide_eq_true_eq,decide_eq_true_eq,Ze,decide_eq_false_iff_not] at hA;obtain ⟨⟨⟨hf,ht⟩,hnx⟩,ht1⟩:=hA;obtain ⟨k,a,hk,hks,hkf⟩:=c02 hf;rw [c9h hkf hk] at hnx;have ham:=qlb hk;have hbz:=h.busy a ham;rw [f3f hkf hk];have hex:(∃x∈ins,a.1∈x.2.2.2)↔0≤b6k ins s:=by rw [d0h,hks]
  by_cases hr:0≤b6k ins s∧¬(1≤t∧t≤3)
  · -- it is released
    obtain ⟨m,x,hm,hms,hmf⟩:=c8n hr.1;have hsx:s∈x.2.2.2:=(c1r _ _).1 hms;rw [f4y hr.2 hmf hm];have hxm:=qlb hm;let x':TI:=(x.1,x.2.1,x.2.2.1,x.2.2.2.filter fun y=> !decide (y=s));have hin:∀z∈ins.set m x',z=x'∨∃i,i≠m∧ins[i]? =some z:=fun z hz=>c0n hz
    have hmem:x'∈ins.set m x':=ql0.2 ⟨m,by rw [qlr];exact (qlc.1 hm).1,Zh ..⟩;have hold:∀i z,i≠m→ins[i]? =some z→z∈ins.set m x':=fun i z q hi=>qlb (by rw [qld (fun e=>q e.symm)];exact hi)
    have hcm:∀y:ByteArray,(∃z∈ins.set m x',y∈z.2.2.2)↔(∃z∈ins,y∈z.2.2.2)∧y≠s:=by
      intro y;constructor
      · rintro ⟨z,hz,hy⟩
        rcases hin z hz with rfl | ⟨i,hi,hiz⟩
        · obtain ⟨h1,h2⟩:=d2h.1 hy
          exact ⟨⟨x,hxm,h1⟩,h2⟩
        · refine ⟨⟨z,qlb hiz,hy⟩,fun e=> ?_⟩
          subst e;exact hi (d59 h.inc.dis hiz hm hy hsx)
      · rintro ⟨⟨z,hz,hy⟩,hne⟩
        obtain ⟨i,hi,rfl⟩:=ql0.1 hz
        by_cases q:i=m
        · subst q
          have:ins[i]=x:=(qlc.1 hm).2;rw [this] at hy;exact ⟨x',hmem,d2h.2 ⟨hy,hne⟩⟩
        · exact ⟨_,hold i _ q (qla hi),hy⟩
    have hC : CtlProp n ss (fl.set k (a.1,a.2.1,a.2.2.1,a.2.2.2.1,t)) (ins.set m x') ws:=by
      refine ⟨h.town,fun b hb2=> ?_,c0w h.srt hk (fun z q=>q) (fun z q=>q),by rw [qlr];exact h.fl12,fun b hb2=> ?_,⟨fun z hz=> ?_,c0w h.inc.num hm (fun z q=>q) (fun z q=>q),c0w h.inc.dis hm (fun z q y hy=>q y (d2h.1 hy).1) (fun z q y hy e=>q y hy (d2h.1 e).1),by rw [qlr];exact h.inc.len⟩,h.ws8,fun z hz=> ?_,fun z hz y hy=> ?_,fun b hb2=> ?_,fun w hw=> ?_,h.wsrt⟩
      · rcases c0n hb2 with e | ⟨i,_,hi⟩
        · subst e
          have hao:=h.ap a ham;simp only [c3f,Zc,decide_eq_true_eq] at hao⊢;exact ⟨hao.1,ht⟩
        · exact h.ap b (qlb hi)
      · rcases c0n hb2 with e | ⟨i,_,hi⟩
        · subst e;exact h.has a ham
        · exact h.has b (qlb hi)
      · rcases hin z hz with rfl | ⟨i,_,hiz⟩
        · exact f9p (h.inc.each x hxm)
        · exact h.inc.each z (qlb hiz)
      · rcases hin z hz with rfl | ⟨i,_,hiz⟩
        · exact h.node x hxm
        · exact h.node z (qlb hiz)
      · obtain ⟨⟨z2,hz2,hy2⟩,_⟩:=(hcm y).1 ⟨z,hz,hy⟩
        obtain ⟨b,hb2,e⟩:=h.names z2 hz2 y hy2;obtain ⟨i,hi,rfl⟩:=ql0.1 hb2
        by_cases q:i=k
        · subst q
          refine ⟨_,ql0.2 ⟨i,by rw [qlr];exact hi,Zh ..⟩,?_⟩;rw [←e,←(qlc.1 hk).2]
        · exact ⟨fl[i],ql0.2 ⟨i,by rw [qlr];exact hi,Zo (fun z=>q z.symm) _⟩,e⟩
      · rw [hcm]
        rcases c0n hb2 with e | ⟨i,hik,hi⟩
        · subst e
          constructor
          · intro q;exact absurd q hr.2
          · rintro ⟨_,q⟩;exact absurd hks q
        · rw [h.busy b (qlb hi)]
          constructor
          · intro q
            refine ⟨q,fun e=>hik ?_⟩;exact c4i h.srt hi hk (by rw [e,hks])
          · exact fun q=>q.1
      · obtain ⟨⟨z,hz,hz1,hz2⟩,hw2⟩:=h.want w hw
        refine ⟨?_,hw2⟩;obtain ⟨i,hi,rfl⟩:=ql0.1 hz
        by_cases q:i=m
        · subst q
          have:ins[i]=x:=(qlc.1 hm).2;rw [this] at hz1 hz2;exact ⟨x',hmem,hz1,hz2⟩
        · exact ⟨_,hold i _ q (qla hi),hz1,hz2⟩
    exact (b36 ..).2 hC
  · rw [f5o hr]
    refine (b36 ..).2 (g38 h hk (h.has a ham) ht ?_);rw [hex];rw [hex] at hbz;have hst:=h.ap a ham;simp only [c3f,Zc,decide_eq_true_eq] at hst;have h5:=hst.2;constructor
    · intro q
      apply hbz.1;refine Classical.byContradiction fun hnb=> ?_
      have hc:a.2.2.2.2=0∨a.2.2.2.2=4∨a.2.2.2.2=5:=by omega
      rcases hc with e | e | e<;>rw [e] at hnx<;>simp [d4i] at hnx<;>omega
    · intro q
      exact Classical.byContradiction fun hnb=>hr ⟨q,hnb⟩
def g3i (t:Int):Int:=if t=1 then 0 else 4
def f0v (a:TA):TA:=(a.1,a.2.1,a.2.2.1,a.2.2.2.1,g3i a.2.2.2.2)
def b7q (fl:List TA) (names:List ByteArray):List TA:=fl.map fun a=>if inS a.1 names=true then f0v a else a
theorem b7y (fl:List TA) (names:List ByteArray):(b7q fl names).length=fl.length:=qlu _
theorem f6h (fl:List TA):b7q fl []=fl:=by
  rw [b7q]
  conv=>rhs;rw [←List.map_id fl]
  exact List.map_congr_left fun a _=>by simp [inS]
theorem f5j {fl:List TA} {names:List ByteArray} {k:Nat} {a:TA} (hk:fl[k]? =some a) (hn:inS a.1 names=false):(b7q fl names)[k]? =some a:=by
  rw [b7q,qma,hk,qmv,hn];rfl
theorem g3n {fl:List TA} {names:List ByteArray} {s:ByteArray} {k j:Nat} {a:TA} (hd:∀i b,fl[i]? =some b→b.1=s→i=k) (hj:names[j]? =some s) (hk:fl[k]? =some a) (hs:a.1=s):(b7q fl (names.take j)).set k (f0v a)=b7q fl (names.take (j+1)):=by
  apply List.ext_getElem?;intro i;have hkl:=(qlc.1 hk).1
  by_cases q:k=i
  · subst q
    rw [qlf (by rw [b7y];exact hkl),b7q,qma,hk,qmv];have:inS a.1 (names.take (j+1))=true:=by
      rw [inS,Zi];exact ⟨s,qlb (show (names.take (j+1))[j]? =some s by rw [List.getElem?_take,if_pos (by omega)];exact hj),by simp [hs]⟩
    rw [this,if_pos rfl]
  · rw [qld q,b7q,b7q,qma,qma]
    cases hb:fl[i]? with
    | none=>rfl
    | some b=>
      rw [qmv,qmv];have hbs:b.1≠s:=fun e=>q (hd i b hb e).symm
      have:inS b.1 (names.take (j+1))=inS b.1 (names.take j):=by
        rw [qlx,hj,Option.toList_some,inS,inS,List.any_append];simp [hbs]
      rw [this]
def g0b (names:List ByteArray) (a:TA):TA:=if inS a.1 names=true then f0v a else a
section
variable {fl:List TA} {names:List ByteArray} {j:Nat} {a:TA} (h:fl[j]? =some a)
include h
theorem f6v:((b7q fl names).take j++fl.drop j).set j (g0b names a)=(b7q fl names).take (j+1)++fl.drop (j+1):=by
  have hj:=(qlc.1 h).1;have hf:(b7q fl names)[j]? =some (g0b names a):=by rw [b7q,qma,h];rfl
  have hl:((b7q fl names).take j).length=j:=by rw [qlj,b7y];omega
  rw [qmn _ _ (by omega),hl,qmz,Zf hj,Zb,qlx,hf];simp
theorem g4l (hn:inS a.1 names=false):(b7q fl names).take j++fl.drop j=(b7q fl names).take (j+1)++fl.drop (j+1):=by
  have hj:=(qlc.1 h).1;have hf:(b7q fl names)[j]? =some a:=f5j h hn;rw [Zf hj,qlx,hf,(qlc.1 h).2];simp
end
def f3v (ins:List TI) (m:Int):List ByteArray:=match ins[(b3j ins m).toNat]? with
  | some x=>x.2.2.2
  | none=>[]
def g3j (ins:List TI) (m:Int):List TI:=match ins[(b3j ins m).toNat]? with
  | some x=>ins.set (b3j ins m).toNat (x.1,x.2.1,true,[])
  | none=>ins
def c7w (ws:List TW) (m:Int):List TW:=ws.filter fun w=> !decide (w.1=m)
theorem d9e {ins:List TI} {m:Int} {k:Nat} {x:TI} (h:b3j ins m=(k:Int)) (hx:ins[k]? =some x):f3v ins m=x.2.2.2∧g3j ins m=ins.set k (x.1,x.2.1,true,[]):=by
  rw [f3v,g3j,h,qlh,hx];exact ⟨rfl,rfl⟩
theorem f7b (ins:List TI) (m:Int):(g3j ins m).length=ins.length:=by
  rw [g3j];split
  · rw [qlr]
  · rfl
theorem f7h {ins:List TI} {q:Nat} (m:Int) (h:∀x∈ins,x.2.2.2.length≤q):∀x∈g3j ins m,x.2.2.2.length≤q:=by
  intro x hx;rw [g3j] at hx;split at hx
  · rcases List.mem_or_eq_of_mem_set hx with z | z
    · exact h x z
    · subst z;exact qle _
  · exact h x hx
theorem d3d (ws:List TW) (m:Int):(c7w ws m).length≤ws.length:=Zm ..
theorem f7d {ws:List TW} {q:Nat} (m:Int) (h:∀w∈ws,w.2.length≤q):∀w∈c7w ws m,w.2.length≤q:=fun w hw=>h w (Zl.1 hw).1
def ST2:V:=Zp [V.any,V.any]
theorem WkL.app:∀{a a' b b':List V},WkL a a'→WkL b b'→WkL (a++b) (a'++b')
  | [],[],_,_,_,h=>h
  | _::_,_::_,_,_,⟨h1,h2⟩,h=>⟨h1,WkL.app h2 h⟩
  | [],_::_,_,_,h,_=>h.elim
  | _::_,[],_,_,h,_=>h.elim
section
variable {α:Type} {f:α→V} {l:List α} {i:Nat} {x:α} (hx:l[i]? =some x)
include hx
theorem f5r:(Za i ST2++(l.drop i).map f)[i]? =some (f x):=by
  rw [qli (by simp),qmh,qmz,qma,qmt,Nat.add_zero,hx];rfl
theorem c4w (y:V):(Za i ST2++(l.drop i).map f).set i y=Za i ST2++y::(l.drop (i+1)).map f:=by
  have hl:=(qlc.1 hx).1;rw [qmn _ _ (by simp),qmh,qmz,Zf hl,qm5,Zb]
end
theorem c6v {α:Type} {f:α→V} {l:List α} {i:Nat}:Za (i+1) ST2++(l.drop (i+1)).map f=Za i ST2++ST2::(l.drop (i+1)).map f:=by
  rw [List.replicate_succ',ql5,List.singleton_append]
section
variable {α:Type} {f:α→V} {l:List α} {i:Nat} {x:α} (hx:l[i]? =some x)
include hx
theorem f8f (u v:V):WkL (((Za i ST2++(l.drop i).map f).set i (.agg [u,v])).flatMap V.cells) ((Za (i+1) ST2++(l.drop (i+1)).map f).flatMap V.cells):=by
  rw [c4w hx,c6v,qmw,qmw,ql2,ql2];refine WkL.app (WkL.refl _) (WkL.app ?_ (WkL.refl _));exact ⟨.inr (.inr rfl),.inr (.inr rfl),trivial⟩
theorem g32 (y:V):(Za (i+1) ST2++(l.drop (i+1)).map f).length=((Za i ST2++(l.drop i).map f).set i y).length:=by
  rw [c4w hx,c6v];simp
theorem f7w (u v:V):∀n,(∀z∈(Za i ST2++(l.drop i).map f).set i (.agg [u,v]),z.cells.length=n)→∀z∈Za (i+1) ST2++(l.drop (i+1)).map f,z.cells.length=n:=by
  intro n hn z hz;rw [c4w hx] at hn;have h2:n=2:=(hn (.agg [u,v]) (by simp)).symm;rw [c6v,qll,qlv] at hz;rcases hz with h | h | h
  · rw [qmf h,h2];rfl
  · rw [h,h2];rfl
  · exact hn z (by rw [qll,qlv];exact .inr (.inr h))
theorem d7p (u v:V) (hf:∀z,(f z).cells.length=2):∀z∈(Za i ST2++(l.drop i).map f).set i (.agg [u,v]),z.cells.length=2:=by
  intro z hz;rw [c4w hx,qll,qlv] at hz;rcases hz with h | h | h
  · rw [qmf h];rfl
  · rw [h];rfl
  · obtain ⟨y,_,rfl⟩:=qmd.1 h
    exact hf y
end
theorem d02 {m:Nat} {s:St} {α:Type} {f:α→V} {l:List α} {i:Nat} {x:α} (id:Nat) (u v:V) (hx:l[i]? =some x) (hO:s.O[id]? =some (.arr ((Za i ST2++(l.drop i).map f).set i (.agg [u,v])) .part)) :
    b44 m s {s with O:=s.O.set id (.arr (Za (i+1) ST2++(l.drop (i+1)).map f) .part)}:=
  b8a id _ _ _ _ .part hO (.inl ⟨rfl,rfl⟩) (f8f hx u v) (g32 hx _) (f7w hx u v)
set_option maxRecDepth 8000 in
theorem d73 (l:List TI) (k:Nat) (x0:Int) (x1:Int) (x2:Bool) (x3:List ByteArray) (hl:l.length≤1048576) (hli:∀x∈l,x.2.2.2.length≤1048576) (hk:l[k]? =some (x0,x1,x2,x3)):Con Tryz.prog 64 [sQ rQb l,.int .i64 (Nat.cast k)] [] (.ref 0) [.arr ((l.set k (x0,x1,true,[])).map rQb) .deep]:=by
 have hkl:=(qlc.1 hk).1;have hfin:(l.map rQb).set k (Zp [Zg .i64 x0,Zg .i64 x1,V.bool true,V.sl []])=(l.set k (x0,x1,true,[])).map rQb:=by have q:=qmx (f:=rQb) (l:=l) (i:=k) (a:=(x0,x1,true,[]));exact q.symm
 apply zcn [.tmp 4] [] Tryz.func64 Tryz.ntmps64;intro _ _ _;have T:=tq6 Y3 Y4 Y9 Y29 Y48 Y96;have F:=Fc.mk True.intro;have F:=fq3 @qlh (gdm hk) hfin;apply yR [0,1];apply b0e;intro _ n2 _ _;apply yVc (b3p l hl hli);apply n2
 ·apply b0m (b0a [0,1,5] _);simp only [b0r,b0k,b0i,b0f,b0n,Nat.reduceEqDiff,reduceIte];exact c0v 1 l.length _ rfl
 try simp only [b04,b09,Nat.reduceEqDiff,reduceIte,Zb,Zd]
 apply b0e;intro _ n4 _ _;apply b1b (by kernel_rfl);intro _ q5 k5;show b13 _ _ _ _ 15 (Array.replicate 15 false) _;refine zdU q5 true 0 8 ?_;refine zdU q5 true 1 9 ?_;refine zdU q5 true 2 10 ?_;refine zdU q5 true 3 11 ?_;refine b0z q5 true 4 12 ?_;refine zdU q5 true 5 13 ?_;refine b00 q5 true 6 14 ?_;refine zdU q5 true 7 15 ?_;refine zdU q5 true 8 16 ?_;refine b0z q5 true 9 17 ?_;refine zdU q5 true 10 18 ?_;refine b00 q5 true 11 19 ?_;refine b15 q5 true 12 20 ?_;refine b0z q5 true 13 21 ?_;apply b06 14;apply b0b (by kernel_rfl);apply k5 _;apply n4 _ _ (b0a [5] _);apply (zk);apply yR [4];apply (zr);exact rta
set_option maxRecDepth 100000 in
theorem d77 (n:Int) (ss:List TS) (fl:List TA) (ins:List TI) (ws:List TW) (m:Int) (hs:ss.length≤1048576) (hl:fl.length≤1048576) (hls:∀t∈fl,t.1.size≤9223372036854775807) (hil:ins.length≤1048576) (hin:∀x∈ins,x.2.2.2.length≤1048576) (his:∀x∈ins,∀s∈x.2.2.2,s.size≤9223372036854775807) (hwl:ws.length≤1048576) (hwn:∀x∈ws,x.2.length≤1048576):Con Tryz.prog 25 [tQ n ss,kQ fl ins ws,.int .i64 m] [] (.tup [.agg [.ref 0,.ref 1,.ref 2],.bool (atB n ss fl ins ws m)]) [aQ rQa (b3r (atB n ss fl ins ws m) (b7q fl (f3v ins m))),fQ rQb (b3r (atB n ss fl ins ws m) (g3j ins m)),fQ rQc (b3r (atB n ss fl ins ws m) (c7w ws m))]:=by
 apply zcn [.cell 6 32,.tmp 7] [] Tryz.func25 Tryz.ntmps25;intro _ _ _;have T:=tqa (c2r Y3 Y4 Y9 Y24 Y26 Y28 Y29 Y30 Y32 Y41 Y48 Y81) (tq3 Y96 Y98 b7w);have F:=Fc.mk True.intro;apply yR [2,3,4,6];apply b0e;intros;apply d6n [2,4,6,24] (b5n n ss fl ins ws hs hl hls hil hin his hwl hwn) (b54 ins m hil);apply b0c _ rfl
 ·intro hc0;have hB:(atB n ss fl ins ws m)=false:=by
   rw [atB];cases hq:(b3g n ss fl ins ws) with
   |false=>rfl
   |true=>(have ht:=b5b hq;simp [hq,ht] at hc0;simp;omega)
  apply yR [6,7];apply (zq3);simp only [aQ,fQ,hB,b3e,List.map_nil,List.length_nil,b5t];exact rta
 ·intro hc0;have hB:(atB n ss fl ins ws m)=true:=by
   rw [atB];cases hq:(b3g n ss fl ins ws) with
   |false=>simp [hq] at hc0
   |true=>(have ht:=b5b hq;simp [hq,ht] at hc0;simp;omega)
  have hB2:=hB;rw [atB,qlg,decide_eq_true_eq] at hB2;have hp:=(b36 n ss fl ins ws).1 hB2.1;obtain ⟨k,t,hk1,hk2,hk3⟩:=b83 hB2.2;obtain ⟨t0,t1,t2,t3⟩:=t;have hkl:k < ins.length:=(qlc.1 hk1).1;obtain ⟨hfn,hfi⟩:=d9e hk3 hk1;simp only [] at hfn hfi;have hnl:=hin _ (qlb hk1);simp only [] at hnl;apply zn [2,4,6];have F:=fq3 hk3 @qlh (gdm hk1);apply yRc [2,4,6,8] (b54 ins m hil);apply yRc [2,4,6,8,9] (b91 fl ins ws hl hil hin hwl hwn);apply yRc [2,4,6,8,9] (d73 ins k t0 t1 t2 t3 hil hin hk1);apply b0e;intros;apply yR [2,4,6,8,9,38,39,40];apply b0g;intros;apply b05 (fun j=>⟨[(2,.int .i64 m),(4,.ptr 0 0 0),(6,.ptr 4 0 0),(8,.int .i64 (Nat.cast k)),(9,.ptr 8 0 0),(38,sQ rQa fl),(39,.int .i64 fl.length),(40,.int .i64 (Nat.cast j))],[.box (kQ fl ins ws) .shal,eQ,eQ,eQ,bQ 1 2 3,aQ rQa ((b7q fl t3).take j++fl.drop j),.arr ((ins.set k (t0,t1,true,[])).map rQb) .deep,fQ rQc ws,bQ 5 6 7],false,87,0⟩) (fun j=>j≤fl.length) (fun j=>fl.length - j) 0
  ·apply b1a [2,4,6,8,9,38,39,40] [1,2,3,4,5,6,13,8,12];rfl
  ·exact qle _
  ·rintro j hok12 Q12 n12 e12 r12;have hj1:j≤fl.length:=hok12;apply yR [2,4,6,8,9,38,39,40,41];apply b0e;intros;apply b0c _ rfl
   ·intro hc1;have hlt:j < fl.length:=by omega
    obtain ⟨⟨x0,x1,x2,x3,x4⟩,hx⟩:∃x:TA,fl[j]? =some x:=⟨fl[j]'(by omega),qla (by omega)⟩;have hpl:((b7q fl t3).take j++fl.drop j).length=fl.length:=by rw [qln,qlj,qmj,b7y];omega
    have hsp:((b7q fl t3).take j++fl.drop j)[j]? =some (x0,x1,x2,x3,x4):=by rw [qli (by rw [qlj,b7y];omega),qlj,b7y,qmt,show j+(j - min j fl.length)=j from by omega];exact hx
    apply zn [2,4,6,8,9,38,39,40];apply b0e;intros;apply b0g;intros;have F:=fq6 hk3 @qlh (gdm hk1) (gdm hx) hpl (gdm hsp);apply yR [2,4,6,8,9,10,11,38,39,40];apply b0e;intros;apply b0e;intro _ n20 _ _;apply b1b (by kernel_rfl);intro _ q21 k21;show b13 _ _ _ _ 10 (Array.replicate 10 false) _;refine zdU q21 true 0 45 ?_;refine b00 q21 true 1 46 ?_;refine zdU q21 true 2 47 ?_;refine b0z q21 true 3 48 ?_;refine zdU q21 true 4 49 ?_;refine b00 q21 true 5 50 ?_;refine zdU q21 true 6 51 ?_;refine b00 q21 true 7 52 ?_;apply zoc 8 (c47 t3 x0 hnl);refine zdU q21 true 9 54 ?_;apply b0b (by kernel_rfl);apply k21 _;apply n20 _ _ (b0a [2,4,6,8,9,10,11,38,39,40,54] _);apply (zk);apply b0c _ rfl
    ·intro hc2;have hin3:inS x0 t3=false:=by simpa using hc2
     have hst:=g4l (names:=t3) hx hin3;apply zn [2,4,6,8,9,38,39,40];apply (yV);apply n12 _ (j+1)
     ·apply b1a [2,4,6,8,9,38,39,40] [0,1,2,3,4,5,6,7,8];rw [hst];rfl
     ·exact hlt
     ·show _ < _;omega
    ·intro hc2;have hin3:inS x0 t3=true:=by simpa using hc2
     have hse:=f6v (names:=t3) hx;apply zn [2,4,6,8,9,10,11,38,39,40];apply b0e;intros;apply yR [2,4,6,8,9,10,11,38,39,40,57];apply b0c _ rfl
     ·intro hc3;have hfe:g0b t3 (x0,x1,x2,x3,x4)=(x0,x1,x2,x3,0):=by simp [g0b,f0v,g3i,hin3,hc3]
      rw [hfe] at hse;have hsm:(((b7q fl t3).take j++fl.drop j).map rQa).set j (Zp [V.str x0,Zg .i64 x1,Zg .i64 x2,Zg .i64 x3,Zg .i64 0])=((b7q fl t3).take (j+1)++fl.drop (j+1)).map rQa:=by rw [←hse,qmx]
      have F:=fq7 hk3 @qlh (gdm hk1) (gdm hx) hpl (gdm hsp) hsm;apply yQ [2,4,6,8,9,10,11,38,39,40];apply yQ [2,4,6,8,9,38,39,40];apply (yV);apply n12 _ (j+1)
      ·apply b1a [2,4,6,8,9,38,39,40] [0,1,2,3,4,5,6,7,8];rfl
      ·exact hlt
      ·show _ < _;omega
     ·intro hc3;have hfe:g0b t3 (x0,x1,x2,x3,x4)=(x0,x1,x2,x3,4):=by simp [g0b,f0v,g3i,hin3,hc3]
      rw [hfe] at hse;have hsm:(((b7q fl t3).take j++fl.drop j).map rQa).set j (Zp [V.str x0,Zg .i64 x1,Zg .i64 x2,Zg .i64 x3,Zg .i64 4])=((b7q fl t3).take (j+1)++fl.drop (j+1)).map rQa:=by rw [←hse,qmx]
      have F:=fq7 hk3 @qlh (gdm hk1) (gdm hx) hpl (gdm hsp) hsm;apply yQ [2,4,6,8,9,10,11,38,39,40];apply yQ [2,4,6,8,9,38,39,40];apply (yV);apply n12 _ (j+1)
      ·apply b1a [2,4,6,8,9,38,39,40] [0,1,2,3,4,5,6,7,8];rfl
      ·exact hlt
      ·show _ < _;omega
   ·intro hc1;have hje:((b7q fl t3).take j++fl.drop j)=b7q fl t3:=by rw [ql3 (by rw [b7y];omega),ql4 (by omega),qml]
    rw [hje];apply zn [2,4,6,9];apply yR [2,4,6,9];apply b0e;intros;apply b0e;intro _ n35 _ _;apply yVc (b3w ws hwl hwn);apply n35
    ·apply b0m (b0a [2,6,9,69,70,71] _);simp only [b0r,b0k,b0i,b0f,b0n,Nat.reduceEqDiff,reduceIte];exact c0v 10 ws.length (ws.map rQc) rfl
    try simp only [b04,b09,Nat.reduceEqDiff,reduceIte,Zb,Zd]
    apply b0g;intros;apply b05 (fun i=>⟨[(2,.int .i64 m),(6,.ptr 3 0 0),(9,.ptr 7 0 0),(69,.ref 8),(70,.int .i64 ws.length),(71,.int .i64 (Nat.cast i))],[eQ,eQ,eQ,bQ 0 1 2,aQ rQa (b7q fl t3),.arr ((ins.set k (t0,t1,true,[])).map rQb) .deep,fQ rQc (c7w (ws.take i) m),bQ 4 5 6,.arr (Za i ST2++(ws.drop i).map rQc) .deep],false,87,0⟩) (fun i=>i≤ws.length) (fun i=>ws.length - i) 0
    ·apply b1a [2,6,9,69,70,71] [1,2,3,4,5,6,9,8,10];rfl
    ·exact qle _
    ·rintro i hok38 Q38 n38 e38 r38;have hi1:i≤ws.length:=hok38;apply yR [2,6,9,69,70,71,72];apply b0e;intro _ n40 _ _;apply b0c _ rfl
     ·intro hc4;have hlt:i < ws.length:=by omega
      obtain ⟨⟨x0,x1⟩,hx⟩:∃x:TW,ws[i]? =some x:=⟨ws[i]'(by omega),qla (by omega)⟩;have hrn:=(hp.want _ (qlb hx)).2;simp only [] at hrn;have hne:x1.map (Zg .i64)≠[]:=by
       intro e;rw [List.map_eq_nil_iff.1 e] at hrn;exact absurd hrn (by decide)
      have hri:(Za i ST2++(ws.drop i).map rQc)[i]? =some (Zp ([Zg .i64 x0]++[V.sl (x1.map (Zg .i64))])):=f5r hx;have hrl:(Za i ST2++(ws.drop i).map rQc).length=ws.length:=by simp;omega
      have hgd:((Za i ST2++(ws.drop i).map rQc).set i (Zp [Zg .i64 x0,V.ref 9])).getD i .any=Zp [Zg .i64 x0,V.ref 9]:=d8m (by rw [hrl];exact hlt);have hcz0:=d7p (f:=rQc) hx (Zg .i64 x0) (V.ref 9) (fun z=>rfl);simp only [V.cells] at hcz0;have hcz:=eq_true hcz0;have hfwl:(c7w (ws.take i) m).length≤1048576:=ql7 (d3d ..) (by rw [qlj];omega);apply b6m;apply n40
      ·apply b0m (b0a [2,6,9,69,70,71] _);simp only [b0r,b0k,b0i,b0f,b0n,Nat.reduceEqDiff,reduceIte];exact c80 8 i _ [Zg .i64 x0] (x1.map (Zg .i64)) .deep .flat rfl (.inl rfl) hri hne (.inr ⟨rfl,by rw [qmp,qlk];intro a _;rfl⟩) rfl
      try simp only [b04,b09,Nat.reduceEqDiff,reduceIte,Zb,Zd]
      apply b0e;intro _ n42 _ _;apply b0g;intros;have F:=fq7 hk3 @qlh (gdm hk1) hgd hrl @qlr.{0} hcz;apply yR [2,6,9,13,69,70,71];apply yR [2,6,9,13,69,70,71,78];apply b0c _ rfl
      ·intro hc5;have hst:c7w (ws.take (i+1)) m=c7w (ws.take i) m++[(x0,x1)]:=by
        have e:x0≠m:=hc5;rw [qlx,hx,c7w,c7w,List.filter_append];simp [e]
       have hsn:(c7w (ws.take i) m).map rQc++[Zp [Zg .i64 x0,V.sl (x1.map (Zg .i64))]]=(c7w (ws.take (i+1)) m).map rQc:=by rw [hst];simp only [aQ,fQ,List.map_append];try rfl
       have hln:(c7w (ws.take (i+1)) m).length=(c7w (ws.take i) m).length+1:=by rw [hst,qln];rfl
       apply (yV);apply n42
       ·apply b0m (b0a [2,6,9,69,70,71] _);simp only [b0r,b0k,b0i,b0f,b0n,Nat.reduceEqDiff,reduceIte];exact b0m (d02 (f:=rQc) 8 (Zg .i64 x0) (V.ref 9) hx rfl) (c8w 8 _ _ _ rfl (.inl ⟨rfl,rfl⟩) (by rw [List.all_append,qmp,qlg,qlk,qlk];exact ⟨fun a ha=>by rw [qmf ha];rfl,fun a _=>rfl⟩))
       try simp only [b04,b09,Nat.reduceEqDiff,reduceIte,Zb,Zd]
       apply (yV);apply n38 _ (i+1)
       ·apply b1a [2,6,9,69,70,71] [0,1,2,3,4,5,13,7,8]
        (try simp only [aQ,fQ]);rw [←hsn,hln];rfl
       ·exact hlt
       ·show _ < _;omega
      ·intro hc5;have hst:c7w (ws.take (i+1)) m=c7w (ws.take i) m:=by
        have e:x0=m:=by first | exact hc5 | simpa using hc5
        rw [qlx,hx,c7w,c7w,List.filter_append];simp [e]
       apply (zx);apply n42
       ·apply b0m (b0a [2,6,9,69,70,71] _);simp only [b0r,b0k,b0i,b0f,b0n,Nat.reduceEqDiff,reduceIte];exact b0m (d02 (f:=rQc) 8 (Zg .i64 x0) (V.ref 9) hx rfl) (c8w 8 _ _ _ rfl (.inl ⟨rfl,rfl⟩) (by rw [List.all_append,qmp,qlg,qlk,qlk];exact ⟨fun a ha=>by rw [qmf ha];rfl,fun a _=>rfl⟩))
       try simp only [b04,b09,Nat.reduceEqDiff,reduceIte,Zb,Zd]
       apply (yV);apply n38 _ (i+1)
       ·apply b1a [2,6,9,69,70,71] [0,1,2,3,4,5,6,7,8];rw [hst];rfl
       ·exact hlt
       ·show _ < _;omega
     ·intro hc4;have hie:ws.take i=ws:=ql3 (by omega);rw [hie];apply zn [6,9];apply b0e;intro _ n50 _ _;apply (yV);apply n50
      ·apply b0m (b0a [6,7] _);simp only [b0r,b0k,b0i,b0f,b0n,Nat.reduceEqDiff,reduceIte];exact d2u 5 _ (ins.set k (t0,t1,true,[])).length rfl (qlu _)
      try simp only [b04,b09,Nat.reduceEqDiff,reduceIte,Zb,Zd]
      apply (zq3);simp only [hB,b14,hfn,hfi];exact rta
end Go.Proofs.YtmbbjhopngejaaaGreat
