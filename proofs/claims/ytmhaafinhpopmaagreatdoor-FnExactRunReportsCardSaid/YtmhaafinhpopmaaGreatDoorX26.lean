/- What functions compute. No condition. -/
import Derived.Test.YtmhaafinhpopmaaGreatDoorX24
set_option linter.unusedSimpArgs false
set_option linter.unusedVariables false
set_option linter.defProp false
namespace Go.Proofs.YtmhaafinhpopmaaGreatDoor
open Go Go.Vm
set_option maxHeartbeats 8000000
theorem chainFrom_iff {α:Type} {ok:α→Bool} {bf:α→α→Bool} (tr:∀x y z,bf x y=true→bf y z=true→bf x z=true):∀(l:List α) (p:Option α),chainFrom ok bf p l=true↔(∀x∈l,ok x=true)∧(l.Pairwise fun x y=>bf x y=true)∧∀q,p=some q→∀x∈l,bf q x=true
  | [],p=>by simp [chainFrom]
  | x ::l,p=>by
    have ih:=chainFrom_iff (ok:=ok) tr l (some x);have h2:chainFrom ok bf p (x::l)=true↔ok x=true∧(∀q,p=some q→bf q x=true)∧chainFrom ok bf (some x) l=true:=by
      cases p with
      | none=>simp [chainFrom]
      | some r=>simp [chainFrom,and_assoc]
    rw [h2,ih,List.pairwise_cons];constructor
    · rintro ⟨a,b,c,d,e⟩
      refine ⟨fun y hy=> ?_,⟨fun y hy=>e x rfl y hy,d⟩,fun q hq y hy=> ?_⟩
      · rcases qly.1 hy with rfl | hy
        · exact a
        · exact c y hy
      · rcases qly.1 hy with rfl | hy
        · exact b q hq
        · exact tr q x y (b q hq) (e x rfl y hy)
    · rintro ⟨a,⟨b,c⟩,d⟩
      exact ⟨a x (qlg ..),fun q hq=>d q hq x (qlg ..),fun y hy=>a y (qli _ hy),c,fun q hq y hy=>by cases hq;exact b y hy⟩
theorem chain_iff {α:Type} {ok:α→Bool} {bf:α→α→Bool} (tr:∀x y z,bf x y=true→bf y z=true→bf x z=true) (l:List α):chainAt ok bf l 0=true↔(∀x∈l,ok x=true)∧l.Pairwise fun x y=>bf x y=true:=by
  have:=chainFrom_iff (ok:=ok) tr l none;have e:chainAt ok bf l 0=chainFrom ok bf none l:=by simp [chainAt]
  rw [e,this];simp
theorem pair_next {α:Type} {R:α→α→Prop} (tr:∀x y z,R x y→R y z→R x z):∀(l:List α),(∀(i:Nat) (x y:α),l[i]? =some x→l[i+1]? =some y→R x y)→l.Pairwise R
  | [],_=>.nil
  | [x],_=>List.pairwise_singleton ..
  | x::y::l,h=>by
    have ih:=pair_next tr (y::l) fun i a b ha hb=>h (i+1) a b (by simpa using ha) (by simpa using hb)
    refine List.pairwise_cons.2 ⟨fun z hz=> ?_,ih⟩;have hxy:=h 0 x y rfl rfl;rcases qly.1 hz with rfl | hz
    · exact hxy
    · exact tr _ _ _ hxy ((List.pairwise_cons.1 ih).1 z hz)
theorem pair_get {α:Type} {R:α→α→Prop} {l:List α} (h:l.Pairwise R) {i j:Nat} {x y:α} (hi:l[i]? =some x) (hj:l[j]? =some y) (hij:i < j):R x y:=by
  obtain ⟨h1,rfl⟩:=qlc.1 hi;obtain ⟨h2,rfl⟩:=qlc.1 hj;exact List.pairwise_iff_getElem.1 h i j h1 h2 hij
theorem strB_trans (a b c:ByteArray) (h:strLt a b=true) (k:strLt b c=true):strLt a c=true:=strLt_trans h k
structure IncProp (x:TI):Prop where
  num:1≤x.1∧x.1≤999
  node:0≤x.2.1∧x.2.1≤13
  len:x.2.2.2.length≤12
  closed:x.2.2.1=true→x.2.2.2=[]
  nm:∀s∈x.2.2.2,nameB s=true
  srt:x.2.2.2.Pairwise fun a b=>strLt a b=true
theorem incOK_iff (x:TI):incOK x=true↔IncProp x:=by
  simp only [incOK,Bool.and_eq_true,decide_eq_true_eq,Bool.not_eq_true',decide_eq_false_iff_not,chain_iff strB_trans,Bool.and_eq_false_imp];constructor
  · rintro ⟨⟨⟨⟨h1,h2⟩,h3⟩,h4⟩,h5,h6⟩
    exact ⟨h1,h2,by omega,fun q=>by have:=h4 q;exact qlv.1 (by omega),h5,h6⟩
  · intro h
    refine ⟨⟨⟨⟨h.num,h.node⟩,by have:=h.len;omega⟩,fun q=> ?_⟩,h.nm,h.srt⟩;rw [h.closed q];simp
theorem inS_iff (s:ByteArray) (l:List ByteArray):inS s l=true↔s∈l:=by
  simp [inS]
structure IncsProp (l:List TI):Prop where
  each:∀x∈l,IncProp x
  num:l.Pairwise fun x y=>x.1 < y.1
  dis:l.Pairwise fun x y=>∀s∈y.2.2.2,s ∉ x.2.2.2
  len:l.length≤8
theorem clash_iff (pre:List TI) (x:TI):clashB pre x=false↔∀y∈pre,∀s∈x.2.2.2,s ∉ y.2.2.2:=by
  rw [clashB,List.any_eq_false];constructor
  · intro h y hy s hs hsy
    have:=h s hs;rw [Bool.not_eq_true,List.any_eq_false] at this;exact this y hy ((inS_iff _ _).2 hsy)
  · intro h s hs
    rw [Bool.not_eq_true,List.any_eq_false];intro y hy hq;exact h y hy s hs ((inS_iff _ _).1 hq)
theorem incs_iff (l:List TI):incsB l=true↔IncsProp l:=by
  rw [incsB,qlf,qls,decide_eq_true_eq];constructor
  · rintro ⟨h,h8⟩
    have hp:∀(i:Nat) (x:TI),l[i]? =some x→IncProp x∧(∀(j:Nat) (y:TI),i=j+1→l[j]? =some y→y.1 < x.1)∧∀y∈l.take i,∀s∈x.2.2.2,s ∉ y.2.2.2:=by
      intro i x hx;have hi:=(qlc.1 hx).1;have:=h i (List.mem_range.2 hi);rw [incP,hx] at this;simp only [Bool.and_eq_true,Bool.not_eq_true'] at this;refine ⟨(incOK_iff x).1 this.1.1,fun j y hj hy=> ?_,(clash_iff _ _).1 this.2⟩;subst hj;have h2:=this.1.2;rw [decide_eq_false (by omega),Bool.false_or,Nat.add_sub_cancel,hy] at h2;simpa using h2
    refine ⟨fun x hx=> ?_,pair_next (fun x y z a b=>by omega) l fun i x y hx hy=>(hp (i+1) y hy).2.1 i x rfl hx,?_,by omega⟩
    · obtain ⟨i,hi,rfl⟩:=List.getElem_of_mem hx
      exact (hp i _ (qla hi)).1
    · refine List.pairwise_iff_getElem.2 fun i j hi hj hij=> ?_
      refine (hp j _ (qla hj)).2.2 _ ?_;rw [ql4];exact ⟨i,by rw [qln];omega,by rw [List.getElem_take]⟩
  · intro h
    refine ⟨fun i hi=> ?_,by have:=h.len;omega⟩;have hi:=List.mem_range.1 hi;rw [incP,qla hi];simp only [Bool.and_eq_true,Bool.not_eq_true'];refine ⟨⟨(incOK_iff _).2 (h.each _ (List.getElem_mem hi)),?_⟩,(clash_iff _ _).2 fun y hy=> ?_⟩
    · rcases ql8 i with q | q
      · subst q;rfl
      · rw [decide_eq_false (by omega),Bool.false_or,qla (show i - 1 < l.length by omega)]
        simp only [decide_eq_true_eq];exact List.pairwise_iff_getElem.1 h.num (i - 1) i (by omega) hi (by omega)
    · obtain ⟨j,hj,rfl⟩:=ql4.1 hy
      rw [qln] at hj;rw [List.getElem_take];exact List.pairwise_iff_getElem.1 h.dis j i (by omega) hi (by omega)
theorem findA_iff (fl:List TA) (s:ByteArray):0≤findA fl s↔∃a∈fl,a.1=s:=by
  constructor
  · intro h
    obtain ⟨k,x,h1,h2,_⟩:=findA_at h;exact ⟨x,qlb h1,h2⟩
  · rintro ⟨a,ha,rfl⟩
    have:=first_any (fun x:TA=>decide (x.1=a.1)) fl 0;have h2:(fl.any fun x:TA=>decide (x.1=a.1))=true:=List.any_eq_true.2 ⟨a,ha,by simp⟩;rw [h2,decide_eq_true_eq] at this;exact this
theorem commF_iff (ins:List TI) (s:ByteArray):0≤commF ins s↔∃x∈ins,s∈x.2.2.2:=by
  have:=comm_any ins s;constructor
  · intro h
    rw [decide_eq_true h] at this;obtain ⟨x,hx,h2⟩:=List.any_eq_true.1 this.symm;exact ⟨x,hx,(inS_iff _ _).1 h2⟩
  · rintro ⟨x,hx,hs⟩
    have h2:(ins.any fun y=>inS s y.2.2.2)=true:=List.any_eq_true.2 ⟨x,hx,(inS_iff _ _).2 hs⟩;rw [h2,decide_eq_true_eq] at this;exact this
theorem openF_iff (ins:List TI) (n:Int):0≤openF ins n↔∃x∈ins,x.1=n∧x.2.2.1=false:=by
  have:=first_any (fun x:TI=>decide (x.1=n) && !x.2.2.1) ins 0;have e:openF ins n=firstP (fun x:TI=>decide (x.1=n) && !x.2.2.1) 0 ins:=rfl;rw [e];constructor
  · intro h
    rw [decide_eq_true h] at this;obtain ⟨x,hx,h2⟩:=List.any_eq_true.1 this.symm;exact ⟨x,hx,by simpa using h2⟩
  · rintro ⟨x,hx,h1,h2⟩
    have h3:(ins.any fun x:TI=>decide (x.1=n) && !x.2.2.1)=true:=List.any_eq_true.2 ⟨x,hx,by simp [h1,h2]⟩;rw [h3,decide_eq_true_eq] at this;exact this
structure CtlProp (n:Int) (ss:List TS) (fl:List TA) (ins:List TI) (ws:List TW):Prop where
  town:townB n ss=true
  ap:∀a∈fl,apOK a=true
  srt:fl.Pairwise fun x y=>strLt x.1 y.1=true
  fl12:fl.length≤12
  has:∀a∈fl,0≤a.2.2.1∧a.2.2.1 < n
  inc:IncsProp ins
  ws8:ws.length≤8
  node:∀x∈ins,0≤x.2.1∧x.2.1 < n
  names:∀x∈ins,∀s∈x.2.2.2,∃a∈fl,a.1=s
  busy:∀a∈fl,(1≤a.2.2.2.2∧a.2.2.2.2≤3)↔∃x∈ins,a.1∈x.2.2.2
  want:∀w∈ws,(∃x∈ins,x.1=w.1∧x.2.2.1=false)∧realNeed w.2=true
  wsrt:ws.Pairwise fun x y=>x.1 < y.1
theorem ctl_iff (n:Int) (ss:List TS) (fl:List TA) (ins:List TI) (ws:List TW):ctlB n ss fl ins ws=true↔CtlProp n ss fl ins ws:=by
  have hbz:∀a:TA,fleetP ins a=true↔((1≤a.2.2.2.2∧a.2.2.2.2≤3)↔∃x∈ins,a.1∈x.2.2.2):=by
    intro a;rw [fleetP,←commF_iff,busyA]
    by_cases h1:1≤a.2.2.2.2<;>by_cases h2:a.2.2.2.2≤3<;>by_cases h3:0≤commF ins a.1<;>simp [h1,h2,h3]<;>omega
  have hw:(List.range ws.length).all (wantP ins ws)=true↔(∀w∈ws,(∃x∈ins,x.1=w.1∧x.2.2.1=false)∧realNeed w.2=true)∧ws.Pairwise fun x y=>x.1 < y.1:=by
    rw [qls];constructor
    · intro h
      have hp:∀(i:Nat) (w:TW),ws[i]? =some w→(0≤openF ins w.1∧realNeed w.2=true)∧∀(j:Nat) (y:TW),i=j+1→ws[j]? =some y→y.1 < w.1:=by
        intro i w hx;have:=h i (List.mem_range.2 (qlc.1 hx).1);rw [wantP,hx] at this;simp only [Bool.and_eq_true,decide_eq_true_eq] at this;refine ⟨this.1,fun j y hj hy=> ?_⟩;subst hj;have h2:=this.2;rw [decide_eq_false (by omega),Bool.false_or,Nat.add_sub_cancel,hy] at h2;simpa using h2
      refine ⟨fun w hw=> ?_,pair_next (fun x y z a b=>by omega) ws fun i x y hx hy=>(hp (i+1) y hy).2 i x rfl hx⟩;obtain ⟨i,hi,rfl⟩:=List.getElem_of_mem hw;have:=(hp i _ (qla hi)).1;exact ⟨(openF_iff _ _).1 this.1,this.2⟩
    · rintro ⟨h1,h2⟩ i hi
      have hi:=List.mem_range.1 hi;rw [wantP,qla hi];simp only [Bool.and_eq_true,decide_eq_true_eq];have hw:=h1 _ (List.getElem_mem hi);refine ⟨⟨(openF_iff _ _).2 hw.1,hw.2⟩,?_⟩;rcases ql8 i with q | q
      · subst q;rfl
      · rw [decide_eq_false (by omega),Bool.false_or,qla (show i - 1 < ws.length by omega)]
        simp only [decide_eq_true_eq];exact List.pairwise_iff_getElem.1 h2 (i - 1) i (by omega) hi (by omega)
  rw [ctlB,ctlH,dsB,qlf,qlf,qlf,qlf,qlf,qlf,qlf,incs_iff,hw,qls,qls,qls,fleetB,qlf,
    chain_iff (bf:=apBf) (fun a b c h k=>strLt_trans (show strLt a.1 b.1=true from h) (show strLt b.1 c.1=true from k)),decide_eq_true_eq,Bool.not_eq_true',decide_eq_false_iff_not]
  constructor
  · rintro ⟨⟨⟨⟨⟨⟨⟨h1,⟨h2,h3⟩,h4⟩,h5⟩,h6⟩,h7⟩,h8⟩,h9⟩,h10,h11⟩
    have hn:=(town_facts h1).1;refine ⟨h1,h2,h3,by omega,fun a ha=> ?_,h6,by omega,fun x hx=> ?_,fun x hx s hs=> ?_,fun a ha=>(hbz a).1 (h9 a ha),h10,h11⟩
    · have:=h5 a ha
      rw [has_facts hn] at this;simpa using this
    · have:=h8 x hx
      rw [inP,qlf,has_facts hn] at this;simpa using this.1
    · have:=h8 x hx
      rw [inP,qlf,qls] at this;exact (findA_iff _ _).1 (by simpa using this.2 s hs)
  · intro h
    have hn:=(town_facts h.town).1;refine ⟨⟨⟨⟨⟨⟨⟨h.town,⟨h.ap,h.srt⟩,by have:=h.fl12;omega⟩,fun a ha=> ?_⟩,h.inc⟩,by have:=h.ws8;omega⟩,fun x hx=> ?_⟩,fun a ha=>(hbz a).2 (h.busy a ha)⟩,h.want,h.wsrt⟩
    · rw [has_facts hn]
      simpa using h.has a ha
    · rw [inP,qlf,qls,has_facts hn]
      exact ⟨by simpa using h.node x hx,fun s hs=>by simpa using (findA_iff _ _).2 (h.names x hx s hs)⟩
theorem name_uniq {fl:List TA} (hs:fl.Pairwise fun x y=>strLt x.1 y.1=true) {i j:Nat} {a b:TA} (hi:fl[i]? =some a) (hj:fl[j]? =some b) (e:a.1=b.1):i=j:=by
  rcases Nat.lt_trichotomy i j with h | h | h
  · have:=pair_get hs hi hj h
    rw [e,strLt_irrefl] at this;cases this
  · exact h
  · have:=pair_get hs hj hi h
    rw [e,strLt_irrefl] at this;cases this
theorem mem_set {α:Type} {l:List α} {k:Nat} {y z:α} (h:z∈l.set k y):z=y∨∃i,i≠k∧l[i]? =some z:=by
  obtain ⟨i,hi,rfl⟩:=ql4.1 h;rw [qlh] at hi;rw [List.getElem_set]
  by_cases e:k=i
  · subst e;left;rw [if_pos rfl]
  · right;rw [if_neg e];exact ⟨i,fun q=>e q.symm,qla hi⟩
theorem set_pair {α:Type} {R:α→α→Prop} {l:List α} {k:Nat} {x y:α} (h:l.Pairwise R) (hx:l[k]? =some x) (h1:∀z,R z x→R z y) (h2:∀z,R x z→R y z):(l.set k y).Pairwise R:=by
  refine List.pairwise_iff_getElem.2 fun i j hi hj hij=> ?_
  rw [qlh] at hi hj;have hk:=(qlc.1 hx);obtain ⟨hkl,hkx⟩:=hk;have hp:=List.pairwise_iff_getElem.1 h;rw [List.getElem_set,List.getElem_set]
  by_cases e1:k=i
  · subst e1
    rw [if_pos rfl,if_neg (by omega)];exact h2 _ (by have:=hp k j hi hj hij;rwa [hkx] at this)
  · rw [if_neg e1]
    by_cases e2:k=j
    · subst e2
      rw [if_pos rfl];exact h1 _ (by have:=hp i k hi hj hij;rwa [hkx] at this)
    · rw [if_neg e2]
      exact hp i j hi hj hij
theorem fl_keep {n:Int} {ss:List TS} {fl:List TA} {ins:List TI} {ws:List TW} (h:CtlProp n ss fl ins ws) {k:Nat} {a:TA} {nd st:Int} (hk:fl[k]? =some a) (hn:0≤nd∧nd < n) (hs:0≤st∧st≤5) (hb:(1≤st∧st≤3)↔∃x∈ins,a.1∈x.2.2.2) :
    CtlProp n ss (fl.set k (a.1,a.2.1,nd,a.2.2.2.1,st)) ins ws:=by
  have hn14:=(town_facts h.town).1;have hao:=h.ap a (qlb hk);refine ⟨h.town,fun b hb2=> ?_,set_pair h.srt hk (fun z q=>q) (fun z q=>q),by rw [qlh];exact h.fl12,fun b hb2=> ?_,h.inc,h.ws8,h.node,fun x hx s hs2=> ?_,fun b hb2=> ?_,h.want,h.wsrt⟩
  · rcases mem_set hb2 with e | ⟨i,_,hi⟩
    · subst e
      simp only [apOK,Bool.and_eq_true,decide_eq_true_eq] at hao⊢;refine ⟨⟨⟨⟨hao.1.1.1.1,hao.1.1.1.2⟩,?_⟩,hao.1.2⟩,hs⟩;omega
    · exact h.ap b (qlb hi)
  · rcases mem_set hb2 with e | ⟨i,_,hi⟩
    · subst e;exact hn
    · exact h.has b (qlb hi)
  · obtain ⟨b,hb2,e⟩:=h.names x hx s hs2
    obtain ⟨i,hi,rfl⟩:=ql4.1 hb2
    by_cases q:i=k
    · subst q
      refine ⟨_,ql4.2 ⟨i,by rw [qlh];exact hi,List.getElem_set_self ..⟩,?_⟩;rw [←e,←(qlc.1 hk).2]
    · exact ⟨fl[i],ql4.2 ⟨i,by rw [qlh];exact hi,List.getElem_set_ne (fun z=>q z.symm) _⟩,e⟩
  · rcases mem_set hb2 with e | ⟨i,_,hi⟩
    · subst e;exact hb
    · exact h.busy b (qlb hi)
theorem comm_uniq {ins:List TI} (hd:ins.Pairwise fun x y=>∀s∈y.2.2.2,s ∉ x.2.2.2) {i j:Nat} {x y:TI} {s:ByteArray} (hi:ins[i]? =some x) (hj:ins[j]? =some y) (hx:s∈x.2.2.2) (hy:s∈y.2.2.2):i=j:=by
  rcases Nat.lt_trichotomy i j with h | h | h
  · exact absurd hx (pair_get hd hi hj h s hy)
  · exact h
  · exact absurd hy (pair_get hd hj hi h s hx)
theorem arr_keep {n:Int} {ss:List TS} {fl:List TA} {ins:List TI} {ws:List TW} {s:ByteArray} (hB:ctlB n ss fl ins ws=true) (hA:arrB fl s=true):ctlB n ss (arrF fl ins s) ins ws=true:=by
  have h:=(ctl_iff ..).1 hB;rw [arrB,qlf,decide_eq_true_eq,decide_eq_true_eq] at hA;obtain ⟨k,a,hk,hks,hkf⟩:=findA_at hA.1;have hst:=stA_at hkf hk;have h2:a.2.2.2.2=2:=by rw [←hst];exact hA.2
  have hbz:=(h.busy a (qlb hk)).1 (by omega);have hcm:0≤commF ins s:=(commF_iff _ _).2 (by rw [←hks];exact hbz);obtain ⟨m,x,hm,_,hmf⟩:=commF_at hcm;rw [arrF_at hkf hk hmf hm];exact (ctl_iff ..).2 (fl_keep h hk (h.node x (qlb hm)) (by omega) ⟨fun _=>hbz,fun _=>by omega⟩)
theorem rel_inc {x:TI} {s:ByteArray} (h:IncProp x):IncProp (x.1,x.2.1,x.2.2.1,x.2.2.2.filter fun y=> !decide (y=s)):=by
  refine ⟨h.num,h.node,qlx (List.length_filter_le ..) h.len,fun q=> ?_,fun y hy=>h.nm y (List.mem_filter.1 hy).1,h.srt.filter _⟩;show (x.2.2.2.filter _)=[];rw [h.closed q];rfl
theorem mem_rel {s t:ByteArray} {l:List ByteArray}:t∈l.filter (fun y=> !decide (y=s))↔t∈l∧t≠s:=by
  rw [List.mem_filter];simp
theorem rep_keep {n:Int} {ss:List TS} {fl:List TA} {ins:List TI} {ws:List TW} {s:ByteArray} {t:Int} (hB:ctlB n ss fl ins ws=true) (hA:repB fl s t=true):ctlB n ss (chgF fl s t) (repI ins s t) ws=true:=by
  have h:=(ctl_iff ..).1 hB;rw [repB,chgB,qlf,qlf,qlf,qlf,decide_eq_true_eq,decide_eq_true_eq,decide_eq_true_eq,decide_eq_true_eq,Bool.not_eq_true',decide_eq_false_iff_not] at hA;obtain ⟨⟨⟨hf,ht⟩,hnx⟩,ht1⟩:=hA;obtain ⟨k,a,hk,hks,hkf⟩:=findA_at hf;rw [stA_at hkf hk] at hnx;have ham:=qlb hk;have hbz:=h.busy a ham;rw [chgF_at hkf hk];have hex:(∃x∈ins,a.1∈x.2.2.2)↔0≤commF ins s:=by rw [commF_iff,hks]
  by_cases hr:0≤commF ins s∧¬(1≤t∧t≤3)
  · -- it is released
    obtain ⟨m,x,hm,hms,hmf⟩:=commF_at hr.1;have hsx:s∈x.2.2.2:=(inS_iff _ _).1 hms;rw [repI_at hr.2 hmf hm];have hxm:=qlb hm;let x':TI:=(x.1,x.2.1,x.2.2.1,x.2.2.2.filter fun y=> !decide (y=s));have hin:∀z∈ins.set m x',z=x'∨∃i,i≠m∧ins[i]? =some z:=fun z hz=>mem_set hz
    have hmem:x'∈ins.set m x':=ql4.2 ⟨m,by rw [qlh];exact (qlc.1 hm).1,List.getElem_set_self ..⟩;have hold:∀i z,i≠m→ins[i]? =some z→z∈ins.set m x':=fun i z q hi=>qlb (by rw [List.getElem?_set_ne (fun e=>q e.symm)];exact hi)
    have hcm:∀y:ByteArray,(∃z∈ins.set m x',y∈z.2.2.2)↔(∃z∈ins,y∈z.2.2.2)∧y≠s:=by
      intro y;constructor
      · rintro ⟨z,hz,hy⟩
        rcases hin z hz with rfl | ⟨i,hi,hiz⟩
        · obtain ⟨h1,h2⟩:=mem_rel.1 hy
          exact ⟨⟨x,hxm,h1⟩,h2⟩
        · refine ⟨⟨z,qlb hiz,hy⟩,fun e=> ?_⟩
          subst e;exact hi (comm_uniq h.inc.dis hiz hm hy hsx)
      · rintro ⟨⟨z,hz,hy⟩,hne⟩
        obtain ⟨i,hi,rfl⟩:=ql4.1 hz
        by_cases q:i=m
        · subst q
          have:ins[i]=x:=(qlc.1 hm).2;rw [this] at hy;exact ⟨x',hmem,mem_rel.2 ⟨hy,hne⟩⟩
        · exact ⟨_,hold i _ q (qla hi),hy⟩
    have hC : CtlProp n ss (fl.set k (a.1,a.2.1,a.2.2.1,a.2.2.2.1,t)) (ins.set m x') ws:=by
      refine ⟨h.town,fun b hb2=> ?_,set_pair h.srt hk (fun z q=>q) (fun z q=>q),by rw [qlh];exact h.fl12,fun b hb2=> ?_,⟨fun z hz=> ?_,set_pair h.inc.num hm (fun z q=>q) (fun z q=>q),set_pair h.inc.dis hm (fun z q y hy=>q y (mem_rel.1 hy).1) (fun z q y hy e=>q y hy (mem_rel.1 e).1),by rw [qlh];exact h.inc.len⟩,h.ws8,fun z hz=> ?_,fun z hz y hy=> ?_,fun b hb2=> ?_,fun w hw=> ?_,h.wsrt⟩
      · rcases mem_set hb2 with e | ⟨i,_,hi⟩
        · subst e
          have hao:=h.ap a ham;simp only [apOK,Bool.and_eq_true,decide_eq_true_eq] at hao⊢;exact ⟨hao.1,ht⟩
        · exact h.ap b (qlb hi)
      · rcases mem_set hb2 with e | ⟨i,_,hi⟩
        · subst e;exact h.has a ham
        · exact h.has b (qlb hi)
      · rcases hin z hz with rfl | ⟨i,_,hiz⟩
        · exact rel_inc (h.inc.each x hxm)
        · exact h.inc.each z (qlb hiz)
      · rcases hin z hz with rfl | ⟨i,_,hiz⟩
        · exact h.node x hxm
        · exact h.node z (qlb hiz)
      · obtain ⟨⟨z2,hz2,hy2⟩,_⟩:=(hcm y).1 ⟨z,hz,hy⟩
        obtain ⟨b,hb2,e⟩:=h.names z2 hz2 y hy2;obtain ⟨i,hi,rfl⟩:=ql4.1 hb2
        by_cases q:i=k
        · subst q
          refine ⟨_,ql4.2 ⟨i,by rw [qlh];exact hi,List.getElem_set_self ..⟩,?_⟩;rw [←e,←(qlc.1 hk).2]
        · exact ⟨fl[i],ql4.2 ⟨i,by rw [qlh];exact hi,List.getElem_set_ne (fun z=>q z.symm) _⟩,e⟩
      · rw [hcm]
        rcases mem_set hb2 with e | ⟨i,hik,hi⟩
        · subst e
          constructor
          · intro q;exact absurd q hr.2
          · rintro ⟨_,q⟩;exact absurd hks q
        · rw [h.busy b (qlb hi)]
          constructor
          · intro q
            refine ⟨q,fun e=>hik ?_⟩;exact name_uniq h.srt hi hk (by rw [e,hks])
          · exact fun q=>q.1
      · obtain ⟨⟨z,hz,hz1,hz2⟩,hw2⟩:=h.want w hw
        refine ⟨?_,hw2⟩;obtain ⟨i,hi,rfl⟩:=ql4.1 hz
        by_cases q:i=m
        · subst q
          have:ins[i]=x:=(qlc.1 hm).2;rw [this] at hz1 hz2;exact ⟨x',hmem,hz1,hz2⟩
        · exact ⟨_,hold i _ q (qla hi),hz1,hz2⟩
    exact (ctl_iff ..).2 hC
  · rw [repI_no hr]
    refine (ctl_iff ..).2 (fl_keep h hk (h.has a ham) ht ?_);rw [hex];rw [hex] at hbz;have hst:=h.ap a ham;simp only [apOK,Bool.and_eq_true,decide_eq_true_eq] at hst;have h5:=hst.2;constructor
    · intro q
      apply hbz.1;refine Classical.byContradiction fun hnb=> ?_
      have hc:a.2.2.2.2=0∨a.2.2.2.2=4∨a.2.2.2.2=5:=by omega
      rcases hc with e | e | e<;>rw [e] at hnx<;>simp [nextI] at hnx<;>omega
    · intro q
      exact Classical.byContradiction fun hnb=>hr ⟨q,hnb⟩
theorem zdLoadZ {P:Program} {L:Lend} {rg:Array Oper} {K:St→Prop} {fuel:Nat} {listed:Array Bool} {env:List (Nat×V)} {O:List Blk} {vw:Bool} {n m:Nat} {oi:Oper} {rest:List Oper} {v:V} (hK:∀s t,EqS s t→K s→K t) (kp:Bool) (i d:Nat)
    (b:aAny P L rg K fuel (listed.setIfInBounds i true) ⟨(d,v)::env,O,vw,n,m⟩) (hi:rg.toList.drop i=oi::rest:=by rfl) (hd:oi.dst=some d:=by rfl) (hf:Region.freeG L kp rg listed i=true:=by kernel_rfl) (hr:(Region.ready .any rg listed).contains i=true:=by kernel_rfl)
    (hp:PureH P L rg kp oi d v ⟨env,O,vw,n,m⟩:=by
      intro t hn gx ho K' k';dsimp only at hn;first | have r0:=row_all (ho rfl) 0 rfl | have r0:=True.intro
      first | have r1:=row_all (ho rfl) 1 rfl | have r1:=True.intro
      first | have r2:=row_all (ho rfl) 2 rfl | have r2:=True.intro
      first | have r3:=row_all (ho rfl) 3 rfl | have r3:=True.intro
      first | have r4:=row_all (ho rfl) 4 rfl | have r4:=True.intro
      first | have r5:=row_all (ho rfl) 5 rfl | have r5:=True.intro
      first | have r6:=row_all (ho rfl) 6 rfl | have r6:=True.intro
      first | have r7:=row_all (ho rfl) 7 rfl | have r7:=True.intro
      first | have r8:=row_all (ho rfl) 8 rfl | have r8:=True.intro
      first | have r9:=row_all (ho rfl) 9 rfl | have r9:=True.intro
      first | have r10:=row_all (ho rfl) 10 rfl | have r10:=True.intro
      first | have r11:=row_all (ho rfl) 11 rfl | have r11:=True.intro
      first | have r12:=row_all (ho rfl) 12 rfl | have r12:=True.intro
      first | have r13:=row_all (ho rfl) 13 rfl | have r13:=True.intro
      first | have r14:=row_all (ho rfl) 14 rfl | have r14:=True.intro
      first | have r15:=row_all (ho rfl) 15 rfl | have r15:=True.intro
      first | have r16:=row_all (ho rfl) 16 rfl | have r16:=True.intro
      first | have r17:=row_all (ho rfl) 17 rfl | have r17:=True.intro
      first | have r18:=row_all (ho rfl) 18 rfl | have r18:=True.intro
      first | have r19:=row_all (ho rfl) 19 rfl | have r19:=True.intro
      first | have r20:=row_all (ho rfl) 20 rfl | have r20:=True.intro
      first | have r21:=row_all (ho rfl) 21 rfl | have r21:=True.intro
      first | have r22:=row_all (ho rfl) 22 rfl | have r22:=True.intro
      first | have r23:=row_all (ho rfl) 23 rfl | have r23:=True.intro
      first | have r24:=row_all (ho rfl) 24 rfl | have r24:=True.intro
      first | have r25:=row_all (ho rfl) 25 rfl | have r25:=True.intro
      first | have r26:=row_all (ho rfl) 26 rfl | have r26:=True.intro
      first | have r27:=row_all (ho rfl) 27 rfl | have r27:=True.intro
      first | have r28:=row_all (ho rfl) 28 rfl | have r28:=True.intro
      first | have r29:=row_all (ho rfl) 29 rfl | have r29:=True.intro
      first | have r30:=row_all (ho rfl) 30 rfl | have r30:=True.intro
      first | have r31:=row_all (ho rfl) 31 rfl | have r31:=True.intro
      first | have r32:=row_all (ho rfl) 32 rfl | have r32:=True.intro
      first | have r33:=row_all (ho rfl) 33 rfl | have r33:=True.intro
      first | have r34:=row_all (ho rfl) 34 rfl | have r34:=True.intro
      first | have r35:=row_all (ho rfl) 35 rfl | have r35:=True.intro
      first | have r36:=row_all (ho rfl) 36 rfl | have r36:=True.intro
      first | have r37:=row_all (ho rfl) 37 rfl | have r37:=True.intro
      first | have r38:=row_all (ho rfl) 38 rfl | have r38:=True.intro
      first | have r39:=row_all (ho rfl) 39 rfl | have r39:=True.intro
      refine .inl ?_;simp (disch:=first | decide | rfl) only [gx,r0,r1,r2,r3,r4,r5,zE,zL,zO,zN,r6,r7,r8,r9,r10,r11,r12,r13,r14,r15,r16,r17,r18,r19,r20,r21,r22,r23,r24,r25,r26,r27,r28,r29,r30,r31,r32,r33,r34,r35,r36,r37,r38,r39,aStepM,optable,Nat.reduceEqDiff,reduceIte,Nat.reduceLT,implies_true,forall_const,reduceCtorEq,V.ofValue,V.ofScalar,V.un,V.gd,aExec,aop,aLoad,row_mk,Blk.row,PartOK,Go.Vm.part,V.cells,V.noSl,V.noRef,Nat.reduceAdd,Nat.reduceLeDiff,Nat.reduceMul,contentL,Value.oneCell',List.all_cons,List.all_nil,‹Tys _›.h,‹Fc _›.h];repeat (refine andA ?_)
      exact k'):aAny P L rg K (fuel+1) listed ⟨env,O,vw,n,m⟩:=aAny_take hK kp i d hi hd hf hr ⟨v,hp,b⟩
end Go.Proofs.YtmhaafinhpopmaaGreatDoor
