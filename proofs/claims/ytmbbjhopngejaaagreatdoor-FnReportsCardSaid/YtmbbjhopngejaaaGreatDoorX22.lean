/- What functions compute. No condition. -/
import Derived.Test.YtmbbjhopngejaaaGreatDoorX20
set_option linter.unusedSimpArgs false
set_option linter.unusedVariables false
set_option linter.defProp false
namespace Go.Proofs.YtmbbjhopngejaaaGreatDoor
open Go Go.Vm
set_option maxHeartbeats 8000000
theorem c4e {α:Type} {ok:α→Bool} {bf:α→α→Bool} (tr:∀x y z,bf x y=true→bf y z=true→bf x z=true):∀(l:List α) (p:Option α),b2i ok bf p l=true↔(∀x∈l,ok x=true)∧(l.Pairwise fun x y=>bf x y=true)∧∀q,p=some q→∀x∈l,bf q x=true
  | [],p=>by simp [b2i]
  | x ::l,p=>by
    have ih:=c4e (ok:=ok) tr l (some x);have h2:b2i ok bf p (x::l)=true↔ok x=true∧(∀q,p=some q→bf q x=true)∧b2i ok bf (some x) l=true:=by
      cases p with
      | none=>simp [b2i]
      | some r=>simp [b2i,and_assoc]
    rw [h2,ih,List.pairwise_cons];constructor
    · rintro ⟨a,b,c,d,e⟩
      refine ⟨fun y hy=> ?_,⟨fun y hy=>e x rfl y hy,d⟩,fun q hq y hy=> ?_⟩
      · rcases qlt.1 hy with rfl | hy
        · exact a
        · exact c y hy
      · rcases qlt.1 hy with rfl | hy
        · exact b q hq
        · exact tr q x y (b q hq) (e x rfl y hy)
    · rintro ⟨a,⟨b,c⟩,d⟩
      exact ⟨a x (qlh ..),fun q hq=>d q hq x (qlh ..),fun y hy=>a y (qll _ hy),c,fun q hq y hy=>by cases hq;exact b y hy⟩
theorem c86 {α:Type} {ok:α→Bool} {bf:α→α→Bool} (tr:∀x y z,bf x y=true→bf y z=true→bf x z=true) (l:List α):b1v ok bf l 0=true↔(∀x∈l,ok x=true)∧l.Pairwise fun x y=>bf x y=true:=by
  have:=c4e (ok:=ok) tr l none;have e:b1v ok bf l 0=b2i ok bf none l:=by simp [b1v]
  rw [e,this];simp
theorem c8g {α:Type} {R:α→α→Prop} (tr:∀x y z,R x y→R y z→R x z):∀(l:List α),(∀(i:Nat) (x y:α),l[i]? =some x→l[i+1]? =some y→R x y)→l.Pairwise R
  | [],_=>.nil
  | [x],_=>List.pairwise_singleton ..
  | x::y::l,h=>by
    have ih:=c8g tr (y::l) fun i a b ha hb=>h (i+1) a b (by simpa using ha) (by simpa using hb)
    refine List.pairwise_cons.2 ⟨fun z hz=> ?_,ih⟩;have hxy:=h 0 x y rfl rfl;rcases qlt.1 hz with rfl | hz
    · exact hxy
    · exact tr _ _ _ hxy ((List.pairwise_cons.1 ih).1 z hz)
theorem c1v {α:Type} {R:α→α→Prop} {l:List α} (h:l.Pairwise R) {i j:Nat} {x y:α} (hi:l[i]? =some x) (hj:l[j]? =some y) (hij:i < j):R x y:=by
  obtain ⟨h1,rfl⟩:=qlc.1 hi;obtain ⟨h2,rfl⟩:=qlc.1 hj;exact qly.1 h i j h1 h2 hij
theorem d8s (a b c:ByteArray) (h:b2x a b=true) (k:b2x b c=true):b2x a c=true:=b8g h k
structure IncProp (x:TI):Prop where
  num:1≤x.1∧x.1≤999
  node:0≤x.2.1∧x.2.1≤13
  len:x.2.2.2.length≤12
  closed:x.2.2.1=true→x.2.2.2=[]
  nm:∀s∈x.2.2.2,b4t s=true
  srt:x.2.2.2.Pairwise fun a b=>b2x a b=true
theorem d41 (x:TI):c04 x=true↔IncProp x:=by
  simp only [c04,Bool.and_eq_true,decide_eq_true_eq,Bool.not_eq_true',decide_eq_false_iff_not,c86 d8s,Bool.and_eq_false_imp];constructor
  · rintro ⟨⟨⟨⟨h1,h2⟩,h3⟩,h4⟩,h5,h6⟩
    exact ⟨h1,h2,by omega,fun q=>by have:=h4 q;exact qlv.1 (by omega),h5,h6⟩
  · intro h
    refine ⟨⟨⟨⟨h.num,h.node⟩,by have:=h.len;omega⟩,fun q=> ?_⟩,h.nm,h.srt⟩;rw [h.closed q];simp
theorem c88 (s:ByteArray) (l:List ByteArray):inS s l=true↔s∈l:=by
  simp [inS]
structure IncsProp (l:List TI):Prop where
  each:∀x∈l,IncProp x
  num:l.Pairwise fun x y=>x.1 < y.1
  dis:l.Pairwise fun x y=>∀s∈y.2.2.2,s ∉ x.2.2.2
  len:l.length≤8
theorem d4i (pre:List TI) (x:TI):b8y pre x=false↔∀y∈pre,∀s∈x.2.2.2,s ∉ y.2.2.2:=by
  rw [b8y,List.any_eq_false];constructor
  · intro h y hy s hs hsy
    have:=h s hs;rw [Bool.not_eq_true,List.any_eq_false] at this;exact this y hy ((c88 _ _).2 hsy)
  · intro h s hs
    rw [Bool.not_eq_true,List.any_eq_false];intro y hy hq;exact h y hy s hs ((c88 _ _).1 hq)
theorem c1r (l:List TI):b8d l=true↔IncsProp l:=by
  rw [b8d,qld,qlf,decide_eq_true_eq];constructor
  · rintro ⟨h,h8⟩
    have hp:∀(i:Nat) (x:TI),l[i]? =some x→IncProp x∧(∀(j:Nat) (y:TI),i=j+1→l[j]? =some y→y.1 < x.1)∧∀y∈l.take i,∀s∈x.2.2.2,s ∉ y.2.2.2:=by
      intro i x hx;have hi:=(qlc.1 hx).1;have:=h i (qmb.2 hi);rw [c2b,hx] at this;simp only [Bool.and_eq_true,Bool.not_eq_true'] at this;refine ⟨(d41 x).1 this.1.1,fun j y hj hy=> ?_,(d4i _ _).1 this.2⟩;subst hj;have h2:=this.1.2;rw [decide_eq_false (by omega),Bool.false_or,Nat.add_sub_cancel,hy] at h2;simpa using h2
    refine ⟨fun x hx=> ?_,c8g (fun x y z a b=>by omega) l fun i x y hx hy=>(hp (i+1) y hy).2.1 i x rfl hx,?_,by omega⟩
    · obtain ⟨i,hi,rfl⟩:=List.getElem_of_mem hx
      exact (hp i _ (qla hi)).1
    · refine qly.2 fun i j hi hj hij=> ?_
      refine (hp j _ (qla hj)).2.2 _ ?_;rw [qlu];exact ⟨i,by rw [qlr];omega,by rw [List.getElem_take]⟩
  · intro h
    refine ⟨fun i hi=> ?_,by have:=h.len;omega⟩;have hi:=qmb.1 hi;rw [c2b,qla hi];simp only [Bool.and_eq_true,Bool.not_eq_true'];refine ⟨⟨(d41 _).2 (h.each _ (List.getElem_mem hi)),?_⟩,(d4i _ _).2 fun y hy=> ?_⟩
    · rcases ql8 i with q | q
      · subst q;rfl
      · rw [decide_eq_false (by omega),Bool.false_or,qla (show i - 1 < l.length by omega)]
        simp only [decide_eq_true_eq];exact qly.1 h.num (i - 1) i (by omega) hi (by omega)
    · obtain ⟨j,hj,rfl⟩:=qlu.1 hy
      rw [qlr] at hj;rw [List.getElem_take];exact qly.1 h.dis j i (by omega) hi (by omega)
theorem c8l (fl:List TA) (s:ByteArray):0≤b3o fl s↔∃a∈fl,a.1=s:=by
  constructor
  · intro h
    obtain ⟨k,x,h1,h2,_⟩:=c1x h;exact ⟨x,qlb h1,h2⟩
  · rintro ⟨a,ha,rfl⟩
    have:=c0u (fun x:TA=>decide (x.1=a.1)) fl 0;have h2:(fl.any fun x:TA=>decide (x.1=a.1))=true:=List.any_eq_true.2 ⟨a,ha,by simp⟩;rw [h2,decide_eq_true_eq] at this;exact this
theorem c3d (ins:List TI) (s:ByteArray):0≤b4v ins s↔∃x∈ins,s∈x.2.2.2:=by
  have:=d2m ins s;constructor
  · intro h
    rw [decide_eq_true h] at this;obtain ⟨x,hx,h2⟩:=List.any_eq_true.1 this.symm;exact ⟨x,hx,(c88 _ _).1 h2⟩
  · rintro ⟨x,hx,hs⟩
    have h2:(ins.any fun y=>inS s y.2.2.2)=true:=List.any_eq_true.2 ⟨x,hx,(c88 _ _).2 hs⟩;rw [h2,decide_eq_true_eq] at this;exact this
theorem d39 (ins:List TI) (n:Int):0≤b6k ins n↔∃x∈ins,x.1=n∧x.2.2.1=false:=by
  have:=c0u (fun x:TI=>decide (x.1=n) && !x.2.2.1) ins 0;have e:b6k ins n=b3b (fun x:TI=>decide (x.1=n) && !x.2.2.1) 0 ins:=rfl;rw [e];constructor
  · intro h
    rw [decide_eq_true h] at this;obtain ⟨x,hx,h2⟩:=List.any_eq_true.1 this.symm;exact ⟨x,hx,by simpa using h2⟩
  · rintro ⟨x,hx,h1,h2⟩
    have h3:(ins.any fun x:TI=>decide (x.1=n) && !x.2.2.1)=true:=List.any_eq_true.2 ⟨x,hx,by simp [h1,h2]⟩;rw [h3,decide_eq_true_eq] at this;exact this
structure CtlProp (n:Int) (ss:List TS) (fl:List TA) (ins:List TI) (ws:List TW):Prop where
  town:b9g n ss=true
  ap:∀a∈fl,c0r a=true
  srt:fl.Pairwise fun x y=>b2x x.1 y.1=true
  fl12:fl.length≤12
  has:∀a∈fl,0≤a.2.2.1∧a.2.2.1 < n
  inc:IncsProp ins
  ws8:ws.length≤8
  node:∀x∈ins,0≤x.2.1∧x.2.1 < n
  names:∀x∈ins,∀s∈x.2.2.2,∃a∈fl,a.1=s
  busy:∀a∈fl,(1≤a.2.2.2.2∧a.2.2.2.2≤3)↔∃x∈ins,a.1∈x.2.2.2
  want:∀w∈ws,(∃x∈ins,x.1=w.1∧x.2.2.1=false)∧b3i w.2=true
  wsrt:ws.Pairwise fun x y=>x.1 < y.1
theorem b5q (n:Int) (ss:List TS) (fl:List TA) (ins:List TI) (ws:List TW):b2o n ss fl ins ws=true↔CtlProp n ss fl ins ws:=by
  have hbz:∀a:TA,b5h ins a=true↔((1≤a.2.2.2.2∧a.2.2.2.2≤3)↔∃x∈ins,a.1∈x.2.2.2):=by
    intro a;rw [b5h,←c3d,b7u]
    by_cases h1:1≤a.2.2.2.2<;>by_cases h2:a.2.2.2.2≤3<;>by_cases h3:0≤b4v ins a.1<;>simp [h1,h2,h3]<;>omega
  have hw:(List.range ws.length).all (b6l ins ws)=true↔(∀w∈ws,(∃x∈ins,x.1=w.1∧x.2.2.1=false)∧b3i w.2=true)∧ws.Pairwise fun x y=>x.1 < y.1:=by
    rw [qlf];constructor
    · intro h
      have hp:∀(i:Nat) (w:TW),ws[i]? =some w→(0≤b6k ins w.1∧b3i w.2=true)∧∀(j:Nat) (y:TW),i=j+1→ws[j]? =some y→y.1 < w.1:=by
        intro i w hx;have:=h i (qmb.2 (qlc.1 hx).1);rw [b6l,hx] at this;simp only [Bool.and_eq_true,decide_eq_true_eq] at this;refine ⟨this.1,fun j y hj hy=> ?_⟩;subst hj;have h2:=this.2;rw [decide_eq_false (by omega),Bool.false_or,Nat.add_sub_cancel,hy] at h2;simpa using h2
      refine ⟨fun w hw=> ?_,c8g (fun x y z a b=>by omega) ws fun i x y hx hy=>(hp (i+1) y hy).2 i x rfl hx⟩;obtain ⟨i,hi,rfl⟩:=List.getElem_of_mem hw;have:=(hp i _ (qla hi)).1;exact ⟨(d39 _ _).1 this.1,this.2⟩
    · rintro ⟨h1,h2⟩ i hi
      have hi:=qmb.1 hi;rw [b6l,qla hi];simp only [Bool.and_eq_true,decide_eq_true_eq];have hw:=h1 _ (List.getElem_mem hi);refine ⟨⟨(d39 _ _).2 hw.1,hw.2⟩,?_⟩;rcases ql8 i with q | q
      · subst q;rfl
      · rw [decide_eq_false (by omega),Bool.false_or,qla (show i - 1 < ws.length by omega)]
        simp only [decide_eq_true_eq];exact qly.1 h2 (i - 1) i (by omega) hi (by omega)
  rw [b2o,c9f,dsB,qld,qld,qld,qld,qld,qld,qld,c1r,hw,qlf,qlf,qlf,b4x,qld,
    c86 (bf:=c4h) (fun a b c h k=>b8g (show b2x a.1 b.1=true from h) (show b2x b.1 c.1=true from k)),decide_eq_true_eq,Bool.not_eq_true',decide_eq_false_iff_not]
  constructor
  · rintro ⟨⟨⟨⟨⟨⟨⟨h1,⟨h2,h3⟩,h4⟩,h5⟩,h6⟩,h7⟩,h8⟩,h9⟩,h10,h11⟩
    have hn:=(b7z h1).1;refine ⟨h1,h2,h3,by omega,fun a ha=> ?_,h6,by omega,fun x hx=> ?_,fun x hx s hs=> ?_,fun a ha=>(hbz a).1 (h9 a ha),h10,h11⟩
    · have:=h5 a ha
      rw [b6d hn] at this;simpa using this
    · have:=h8 x hx
      rw [inP,qld,b6d hn] at this;simpa using this.1
    · have:=h8 x hx
      rw [inP,qld,qlf] at this;exact (c8l _ _).1 (by simpa using this.2 s hs)
  · intro h
    have hn:=(b7z h.town).1;refine ⟨⟨⟨⟨⟨⟨⟨h.town,⟨h.ap,h.srt⟩,by have:=h.fl12;omega⟩,fun a ha=> ?_⟩,h.inc⟩,by have:=h.ws8;omega⟩,fun x hx=> ?_⟩,fun a ha=>(hbz a).2 (h.busy a ha)⟩,h.want,h.wsrt⟩
    · rw [b6d hn]
      simpa using h.has a ha
    · rw [inP,qld,qlf,b6d hn]
      exact ⟨by simpa using h.node x hx,fun s hs=>by simpa using (c8l _ _).2 (h.names x hx s hs)⟩
theorem c7o {fl:List TA} (hs:fl.Pairwise fun x y=>b2x x.1 y.1=true) {i j:Nat} {a b:TA} (hi:fl[i]? =some a) (hj:fl[j]? =some b) (e:a.1=b.1):i=j:=by
  rcases Nat.lt_trichotomy i j with h | h | h
  · have:=c1v hs hi hj h
    rw [e,b81] at this;cases this
  · exact h
  · have:=c1v hs hj hi h
    rw [e,b81] at this;cases this
theorem c09 {α:Type} {l:List α} {k:Nat} {y z:α} (h:z∈l.set k y):z=y∨∃i,i≠k∧l[i]? =some z:=by
  obtain ⟨i,hi,rfl⟩:=qlu.1 h;rw [qlp] at hi;rw [List.getElem_set]
  by_cases e:k=i
  · subst e;left;rw [if_pos rfl]
  · right;rw [if_neg e];exact ⟨i,fun q=>e q.symm,qla hi⟩
theorem c3f {α:Type} {R:α→α→Prop} {l:List α} {k:Nat} {x y:α} (h:l.Pairwise R) (hx:l[k]? =some x) (h1:∀z,R z x→R z y) (h2:∀z,R x z→R y z):(l.set k y).Pairwise R:=by
  refine qly.2 fun i j hi hj hij=> ?_
  rw [qlp] at hi hj;have hk:=(qlc.1 hx);obtain ⟨hkl,hkx⟩:=hk;have hp:=qly.1 h;rw [List.getElem_set,List.getElem_set]
  by_cases e1:k=i
  · subst e1
    rw [if_pos rfl,if_neg (by omega)];exact h2 _ (by have:=hp k j hi hj hij;rwa [hkx] at this)
  · rw [if_neg e1]
    by_cases e2:k=j
    · subst e2
      rw [if_pos rfl];exact h1 _ (by have:=hp i k hi hj hij;rwa [hkx] at this)
    · rw [if_neg e2]
      exact hp i j hi hj hij
theorem f09 {n:Int} {ss:List TS} {fl:List TA} {ins:List TI} {ws:List TW} (h:CtlProp n ss fl ins ws) {k:Nat} {a:TA} {nd st:Int} (hk:fl[k]? =some a) (hn:0≤nd∧nd < n) (hs:0≤st∧st≤5) (hb:(1≤st∧st≤3)↔∃x∈ins,a.1∈x.2.2.2) :
    CtlProp n ss (fl.set k (a.1,a.2.1,nd,a.2.2.2.1,st)) ins ws:=by
  have hn14:=(b7z h.town).1;have hao:=h.ap a (qlb hk);refine ⟨h.town,fun b hb2=> ?_,c3f h.srt hk (fun z q=>q) (fun z q=>q),by rw [qlp];exact h.fl12,fun b hb2=> ?_,h.inc,h.ws8,h.node,fun x hx s hs2=> ?_,fun b hb2=> ?_,h.want,h.wsrt⟩
  · rcases c09 hb2 with e | ⟨i,_,hi⟩
    · subst e
      simp only [c0r,Bool.and_eq_true,decide_eq_true_eq] at hao⊢;refine ⟨⟨⟨⟨hao.1.1.1.1,hao.1.1.1.2⟩,?_⟩,hao.1.2⟩,hs⟩;omega
    · exact h.ap b (qlb hi)
  · rcases c09 hb2 with e | ⟨i,_,hi⟩
    · subst e;exact hn
    · exact h.has b (qlb hi)
  · obtain ⟨b,hb2,e⟩:=h.names x hx s hs2
    obtain ⟨i,hi,rfl⟩:=qlu.1 hb2
    by_cases q:i=k
    · subst q
      refine ⟨_,qlu.2 ⟨i,by rw [qlp];exact hi,List.getElem_set_self ..⟩,?_⟩;rw [←e,←(qlc.1 hk).2]
    · exact ⟨fl[i],qlu.2 ⟨i,by rw [qlp];exact hi,List.getElem_set_ne (fun z=>q z.symm) _⟩,e⟩
  · rcases c09 hb2 with e | ⟨i,_,hi⟩
    · subst e;exact hb
    · exact h.busy b (qlb hi)
theorem f1o {ins:List TI} (hd:ins.Pairwise fun x y=>∀s∈y.2.2.2,s ∉ x.2.2.2) {i j:Nat} {x y:TI} {s:ByteArray} (hi:ins[i]? =some x) (hj:ins[j]? =some y) (hx:s∈x.2.2.2) (hy:s∈y.2.2.2):i=j:=by
  rcases Nat.lt_trichotomy i j with h | h | h
  · exact absurd hx (c1v hd hi hj h s hy)
  · exact h
  · exact absurd hy (c1v hd hj hi h s hx)
theorem d1s {n:Int} {ss:List TS} {fl:List TA} {ins:List TI} {ws:List TW} {s:ByteArray} (hB:b2o n ss fl ins ws=true) (hA:b9t fl s=true):b2o n ss (d5e fl ins s) ins ws=true:=by
  have h:=(b5q ..).1 hB;rw [b9t,qld,decide_eq_true_eq,decide_eq_true_eq] at hA;obtain ⟨k,a,hk,hks,hkf⟩:=c1x hA.1;have hst:=c98 hkf hk;have h2:a.2.2.2.2=2:=by rw [←hst];exact hA.2
  have hbz:=(h.busy a (qlb hk)).1 (by omega);have hcm:0≤b4v ins s:=(c3d _ _).2 (by rw [←hks];exact hbz);obtain ⟨m,x,hm,_,hmf⟩:=b64 hcm;rw [d17 hkf hk hmf hm];exact (b5q ..).2 (f09 h hk (h.node x (qlb hm)) (by omega) ⟨fun _=>hbz,fun _=>by omega⟩)
theorem f62 {x:TI} {s:ByteArray} (h:IncProp x):IncProp (x.1,x.2.1,x.2.2.1,x.2.2.2.filter fun y=> !decide (y=s)):=by
  refine ⟨h.num,h.node,ql6 (List.length_filter_le ..) h.len,fun q=> ?_,fun y hy=>h.nm y (List.mem_filter.1 hy).1,h.srt.filter _⟩;show (x.2.2.2.filter _)=[];rw [h.closed q];rfl
theorem d2b {s t:ByteArray} {l:List ByteArray}:t∈l.filter (fun y=> !decide (y=s))↔t∈l∧t≠s:=by
  rw [List.mem_filter];simp
theorem c6r {n:Int} {ss:List TS} {fl:List TA} {ins:List TI} {ws:List TW} {s:ByteArray} {t:Int} (hB:b2o n ss fl ins ws=true) (hA:c18 fl s t=true):b2o n ss (d7k fl s t) (c9m ins s t) ws=true:=by
  have h:=(b5q ..).1 hB;rw [c18,c4i,qld,qld,qld,qld,decide_eq_true_eq,decide_eq_true_eq,decide_eq_true_eq,decide_eq_true_eq,Bool.not_eq_true',decide_eq_false_iff_not] at hA;obtain ⟨⟨⟨hf,ht⟩,hnx⟩,ht1⟩:=hA;obtain ⟨k,a,hk,hks,hkf⟩:=c1x hf;rw [c98 hkf hk] at hnx;have ham:=qlb hk;have hbz:=h.busy a ham;rw [d2d hkf hk];have hex:(∃x∈ins,a.1∈x.2.2.2)↔0≤b4v ins s:=by rw [c3d,hks]
  by_cases hr:0≤b4v ins s∧¬(1≤t∧t≤3)
  · -- it is released
    obtain ⟨m,x,hm,hms,hmf⟩:=b64 hr.1;have hsx:s∈x.2.2.2:=(c88 _ _).1 hms;rw [d6v hr.2 hmf hm];have hxm:=qlb hm;let x':TI:=(x.1,x.2.1,x.2.2.1,x.2.2.2.filter fun y=> !decide (y=s));have hin:∀z∈ins.set m x',z=x'∨∃i,i≠m∧ins[i]? =some z:=fun z hz=>c09 hz
    have hmem:x'∈ins.set m x':=qlu.2 ⟨m,by rw [qlp];exact (qlc.1 hm).1,List.getElem_set_self ..⟩;have hold:∀i z,i≠m→ins[i]? =some z→z∈ins.set m x':=fun i z q hi=>qlb (by rw [qlg (fun e=>q e.symm)];exact hi)
    have hcm:∀y:ByteArray,(∃z∈ins.set m x',y∈z.2.2.2)↔(∃z∈ins,y∈z.2.2.2)∧y≠s:=by
      intro y;constructor
      · rintro ⟨z,hz,hy⟩
        rcases hin z hz with rfl | ⟨i,hi,hiz⟩
        · obtain ⟨h1,h2⟩:=d2b.1 hy
          exact ⟨⟨x,hxm,h1⟩,h2⟩
        · refine ⟨⟨z,qlb hiz,hy⟩,fun e=> ?_⟩
          subst e;exact hi (f1o h.inc.dis hiz hm hy hsx)
      · rintro ⟨⟨z,hz,hy⟩,hne⟩
        obtain ⟨i,hi,rfl⟩:=qlu.1 hz
        by_cases q:i=m
        · subst q
          have:ins[i]=x:=(qlc.1 hm).2;rw [this] at hy;exact ⟨x',hmem,d2b.2 ⟨hy,hne⟩⟩
        · exact ⟨_,hold i _ q (qla hi),hy⟩
    have hC : CtlProp n ss (fl.set k (a.1,a.2.1,a.2.2.1,a.2.2.2.1,t)) (ins.set m x') ws:=by
      refine ⟨h.town,fun b hb2=> ?_,c3f h.srt hk (fun z q=>q) (fun z q=>q),by rw [qlp];exact h.fl12,fun b hb2=> ?_,⟨fun z hz=> ?_,c3f h.inc.num hm (fun z q=>q) (fun z q=>q),c3f h.inc.dis hm (fun z q y hy=>q y (d2b.1 hy).1) (fun z q y hy e=>q y hy (d2b.1 e).1),by rw [qlp];exact h.inc.len⟩,h.ws8,fun z hz=> ?_,fun z hz y hy=> ?_,fun b hb2=> ?_,fun w hw=> ?_,h.wsrt⟩
      · rcases c09 hb2 with e | ⟨i,_,hi⟩
        · subst e
          have hao:=h.ap a ham;simp only [c0r,Bool.and_eq_true,decide_eq_true_eq] at hao⊢;exact ⟨hao.1,ht⟩
        · exact h.ap b (qlb hi)
      · rcases c09 hb2 with e | ⟨i,_,hi⟩
        · subst e;exact h.has a ham
        · exact h.has b (qlb hi)
      · rcases hin z hz with rfl | ⟨i,_,hiz⟩
        · exact f62 (h.inc.each x hxm)
        · exact h.inc.each z (qlb hiz)
      · rcases hin z hz with rfl | ⟨i,_,hiz⟩
        · exact h.node x hxm
        · exact h.node z (qlb hiz)
      · obtain ⟨⟨z2,hz2,hy2⟩,_⟩:=(hcm y).1 ⟨z,hz,hy⟩
        obtain ⟨b,hb2,e⟩:=h.names z2 hz2 y hy2;obtain ⟨i,hi,rfl⟩:=qlu.1 hb2
        by_cases q:i=k
        · subst q
          refine ⟨_,qlu.2 ⟨i,by rw [qlp];exact hi,List.getElem_set_self ..⟩,?_⟩;rw [←e,←(qlc.1 hk).2]
        · exact ⟨fl[i],qlu.2 ⟨i,by rw [qlp];exact hi,List.getElem_set_ne (fun z=>q z.symm) _⟩,e⟩
      · rw [hcm]
        rcases c09 hb2 with e | ⟨i,hik,hi⟩
        · subst e
          constructor
          · intro q;exact absurd q hr.2
          · rintro ⟨_,q⟩;exact absurd hks q
        · rw [h.busy b (qlb hi)]
          constructor
          · intro q
            refine ⟨q,fun e=>hik ?_⟩;exact c7o h.srt hi hk (by rw [e,hks])
          · exact fun q=>q.1
      · obtain ⟨⟨z,hz,hz1,hz2⟩,hw2⟩:=h.want w hw
        refine ⟨?_,hw2⟩;obtain ⟨i,hi,rfl⟩:=qlu.1 hz
        by_cases q:i=m
        · subst q
          have:ins[i]=x:=(qlc.1 hm).2;rw [this] at hz1 hz2;exact ⟨x',hmem,hz1,hz2⟩
        · exact ⟨_,hold i _ q (qla hi),hz1,hz2⟩
    exact (b5q ..).2 hC
  · rw [d54 hr]
    refine (b5q ..).2 (f09 h hk (h.has a ham) ht ?_);rw [hex];rw [hex] at hbz;have hst:=h.ap a ham;simp only [c0r,Bool.and_eq_true,decide_eq_true_eq] at hst;have h5:=hst.2;constructor
    · intro q
      apply hbz.1;refine Classical.byContradiction fun hnb=> ?_
      have hc:a.2.2.2.2=0∨a.2.2.2.2=4∨a.2.2.2.2=5:=by omega
      rcases hc with e | e | e<;>rw [e] at hnx<;>simp [b8u] at hnx<;>omega
    · intro q
      exact Classical.byContradiction fun hnb=>hr ⟨q,hnb⟩
theorem d3t:∀a b:List UInt8,Op.bytesLess a b=true∨a=b∨Op.bytesLess b a=true
  | [],[]=>.inr (.inl rfl)
  | [],_::_=>.inl rfl
  | _::_,[]=>.inr (.inr rfl)
  | x ::a,y::b=>by
    simp only [Op.bytesLess,Bool.or_eq_true,Bool.and_eq_true,decide_eq_true_eq,beq_iff_eq]
    by_cases h:x < y
    · exact .inl (.inl h)
    · by_cases h2:y < x
      · exact .inr (.inr (.inl h2))
      · have he:x=y:=by
          apply UInt8.toNat_inj.1;have h1:¬x.toNat < y.toNat:=h;have h3:¬y.toNat < x.toNat:=h2;omega
        subst he;rcases d3t a b with q | q | q
        · exact .inl (.inr ⟨rfl,q⟩)
        · exact .inr (.inl (by rw [q]))
        · exact .inr (.inr (.inr ⟨rfl,q⟩))
theorem d0u (a:ByteArray):a.toList=a.data.toList:=ByteArray.toList_eq a
theorem f1x (a b:ByteArray):b2x a b=true∨a=b∨b2x b a=true:=by
  unfold b2x;rw [d0u,d0u];rcases d3t a.data.toList b.data.toList with q | q | q
  · exact .inl q
  · exact .inr (.inl (ByteArray.ext (Array.ext' q)))
  · exact .inr (.inr q)
def d19 (s:ByteArray):List ByteArray→Nat
  | []=>0
  | x::l=>if b2x x s=true then d19 s l+1 else 0
def b7t (l:List ByteArray) (s:ByteArray):List ByteArray:=l.take (d19 s l)++s::l.drop (d19 s l)
theorem f2x (s:ByteArray):∀l:List ByteArray,d19 s l≤l.length
  | []=>qlw _
  | x::l=>by
    have:=f2x s l;rw [d19,qme];split<;>omega
theorem f2h {s x:ByteArray} {l:List ByteArray} {k:Nat} (h:l[k]? =some x) (hx:b2x x s=true):k+d19 s (l.drop k)=(k+1)+d19 s (l.drop (k+1)):=by
  rw [b1h h,d19,if_pos hx];omega
theorem d4s {s x:ByteArray} {l:List ByteArray} {k:Nat} (h:l[k]? =some x) (hx:b2x x s=false):d19 s (l.drop k)=0:=by
  rw [b1h h,d19,if_neg (by rw [hx];decide)]
theorem d7g {s:ByteArray} {l:List ByteArray} {k:Nat} (h:l.length≤k):d19 s (l.drop k)=0:=by
  rw [ql5 h,d19]
theorem f5p (l:List ByteArray) (s:ByteArray):(b7t l s).length=l.length+1:=by
  have:=f2x s l;rw [b7t,qls,qme,qlr,List.length_drop];omega
theorem d08 {l:List ByteArray} {s t:ByteArray}:t∈b7t l s↔t=s∨t∈l:=by
  have e:t∈l↔t∈l.take (d19 s l)∨t∈l.drop (d19 s l):=by rw [←qlj,List.take_append_drop]
  rw [b7t,qlj,qlt,e];constructor
  · rintro (h | h | h)
    · exact .inr (.inl h)
    · exact .inl h
    · exact .inr (.inr h)
  · rintro (h | h | h)
    · exact .inr (.inl h)
    · exact .inl h
    · exact .inr (.inr h)
theorem f3q (x:ByteArray) (l:List ByteArray) (s:ByteArray):b7t (x::l) s=if b2x x s=true then x::b7t l s else s::x::l:=by
  rw [b7t,d19];split
  · rw [List.take_succ_cons,List.drop_succ_cons];rfl
  · rfl
theorem d8g {s:ByteArray}:∀{l:List ByteArray},l.Pairwise (fun a b=>b2x a b=true)→s ∉ l→(b7t l s).Pairwise (fun a b=>b2x a b=true)
  | [],_,_=>List.pairwise_singleton ..
  | x ::l,h,hs=>by
    have hp:=List.pairwise_cons.1 h;rw [f3q];split
    · rename_i hx
      refine List.pairwise_cons.2 ⟨fun y hy=> ?_,d8g hp.2 fun q=>hs (qll _ q)⟩;rcases d08.1 hy with rfl | q
      · exact hx
      · exact hp.1 y q
    · rename_i hx
      have hxs:b2x s x=true:=by
        rcases f1x s x with q | q | q
        · exact q
        · exact absurd (q ▸ qlh ..) hs
        · exact absurd q hx
      refine List.pairwise_cons.2 ⟨fun y hy=> ?_,h⟩;rcases qlt.1 hy with rfl | q
      · exact hxs
      · exact b8g hxs (hp.1 y q)
def b4k (l N:List ByteArray):List ByteArray:=N.foldl b7t l
theorem d5l (l N:List ByteArray) (s:ByteArray):b4k l (N++[s])=b7t (b4k l N) s:=by rw [b4k,List.foldl_append];rfl
theorem d0f:∀(N l:List ByteArray),(b4k l N).length=l.length+N.length
  | [],l=>rfl
  | s::N,l=>by
    show (b4k (b7t l s) N).length=_;rw [d0f N,f5p,qme];omega
theorem b5c {t:ByteArray}:∀{N l:List ByteArray},t∈b4k l N↔t∈l∨t∈N
  | [],l=>by rw [show b4k l []=l from rfl];simp
  | s ::N,l=>by
    rw [show b4k l (s::N)=b4k (b7t l s) N from rfl,b5c (N:=N),d08,qlt];constructor
    · rintro ((h | h) | h)
      · exact .inr (.inl h)
      · exact .inl h
      · exact .inr (.inr h)
    · rintro (h | h | h)
      · exact .inl (.inr h)
      · exact .inl (.inl h)
      · exact .inr h
theorem c4o:∀{N l:List ByteArray},l.Pairwise (fun a b=>b2x a b=true)→N.Nodup→(∀s∈N,s ∉ l)→(b4k l N).Pairwise (fun a b=>b2x a b=true)
  | [],l,h,_,_=>h
  | s::N,l,h,hn,hd=>by
    have hn':=List.nodup_cons.1 hn;refine c4o (N:=N) (l:=b7t l s) (d8g h (hd s (qlh ..))) hn'.2 fun t ht q=> ?_
    rcases d08.1 q with e | q
    · exact hn'.1 (e ▸ ht)
    · exact hd t (qll _ ht) q
def b9y (k:Nat) (ins:List TI) (N:List ByteArray):List TI:=match ins[k]? with
  | some x=>ins.set k (x.1,x.2.1,x.2.2.1,b4k x.2.2.2 N)
  | none=>ins
theorem c15 {k:Nat} {ins:List TI} {x:TI} (h:ins[k]? =some x) (N:List ByteArray):b9y k ins N=ins.set k (x.1,x.2.1,x.2.2.1,b4k x.2.2.2 N):=by rw [b9y,h]
theorem d4q (k:Nat) (ins:List TI) (N:List ByteArray):(b9y k ins N).length=ins.length:=by
  rw [b9y];split
  · rw [qlp]
  · rfl
theorem f1l {k:Nat} {ins:List TI} {x:TI} (h:ins[k]? =some x):b9y k ins []=ins:=by
  rw [c15 h];apply List.ext_getElem?;intro i
  by_cases e:k=i
  · subst e;rw [qlo (qlc.1 h).1,h];rfl
  · rw [qlg e]
theorem d3l {k:Nat} {ins:List TI} {x:TI} (h:ins[k]? =some x) (N:List ByteArray):(b9y k ins N)[k]? =some (x.1,x.2.1,x.2.2.1,b4k x.2.2.2 N):=by
  rw [c15 h];exact qlo (qlc.1 h).1
theorem d9s {k:Nat} {ins:List TI} {x:TI} (h:ins[k]? =some x) (N:List ByteArray) (s:ByteArray):(b9y k ins N).set k (x.1,x.2.1,x.2.2.1,b7t (b4k x.2.2.2 N) s)=b9y k ins (N++[s]):=by
  rw [c15 h,c15 h,List.set_set,d5l]
theorem c4g {order:List Int}:∀{m j:Nat} {i:Int},(c0y order m)[j]? =some i→∃q:Nat,i=(q:Int)∧q < m∧(q:Int)∈order∧(c0y order m).take j=c0y order q
  | 0,j,i,h=>by simp [c0y] at h
  | m + 1,j,i,h=>by
    rw [d75] at h⊢
    by_cases hj:j < (c0y order m).length
    · rw [qlz hj] at h
      obtain ⟨q,h1,h2,h3,h4⟩:=c4g h;exact ⟨q,h1,by omega,h3,by rw [List.take_append_of_le_length (by omega)];exact h4⟩
    · rw [qlq (by omega)] at h
      by_cases ho:(m:Int)∈order
      · rw [if_pos ho] at h
        have h0:j - (c0y order m).length=0:=by
          rcases ql8 (j - (c0y order m).length) with q | q
          · exact q
          · rw [List.getElem?_eq_none (by simp only [List.length_singleton];omega)] at h;cases h
        rw [h0,List.getElem?_cons_zero,Option.some.injEq] at h;refine ⟨m,h.symm,by omega,ho,?_⟩;rw [List.take_append_of_le_length (by omega),qlx (by omega)]
      · rw [if_neg ho] at h;simp at h
end Go.Proofs.YtmbbjhopngejaaaGreatDoor
