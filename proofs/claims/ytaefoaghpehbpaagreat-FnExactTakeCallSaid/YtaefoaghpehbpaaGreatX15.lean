/- What functions compute. No condition. -/
import Derived.Test.YtaefoaghpehbpaaGreatUz
import Derived.Test.YtaefoaghpehbpaaGreatUty
import Derived.Test.YtaefoaghpehbpaaGreatUmG
import Derived.Test.YtaefoaghpehbpaaGreatX13
import Derived.Test.YtaefoaghpehbpaaGreatX14
import Derived.Test.YtaefoaghpehbpaaGreatX8
import Derived.Test.YtaefoaghpehbpaaGreatX1
set_option linter.unusedSimpArgs false
set_option linter.unusedVariables false
set_option linter.defProp false
namespace Go.Proofs.YtaefoaghpehbpaaGreat
open Go Go.Vm
set_option maxHeartbeats 8000000
theorem c3d {α:Type} {ok:α→Bool} {bf:α→α→Bool} (tr:∀x y z,bf x y=true→bf y z=true→bf x z=true):∀(l:List α) (p:Option α),b18 ok bf p l=true↔(∀x∈l,ok x=true)∧(l.Pairwise fun x y=>bf x y=true)∧∀q,p=some q→∀x∈l,bf q x=true
  | [],p=>by simp [b18]
  | x ::l,p=>by
    have ih:=c3d (ok:=ok) tr l (some x)
    have h2:b18 ok bf p (x::l)=true↔ok x=true∧(∀q,p=some q→bf q x=true)∧b18 ok bf (some x) l=true:=by
      cases p with
      | none=>simp [b18]
      | some r=>simp [b18,and_assoc]
    rw [h2,ih,List.pairwise_cons]
    constructor
    · rintro ⟨a,b,c,d,e⟩
      refine ⟨fun y hy=> ?_,⟨fun y hy=>e x rfl y hy,d⟩,fun q hq y hy=> ?_⟩
      · rcases List.mem_cons.1 hy with rfl | hy
        · exact a
        · exact c y hy
      · rcases List.mem_cons.1 hy with rfl | hy
        · exact b q hq
        · exact tr q x y (b q hq) (e x rfl y hy)
    · rintro ⟨a,⟨b,c⟩,d⟩
      exact ⟨a x (List.mem_cons_self ..),fun q hq=>d q hq x (List.mem_cons_self ..),fun y hy=>a y (List.mem_cons_of_mem _ hy),c,fun q hq y hy=>by cases hq;exact b y hy⟩
theorem d2j {α:Type} {ok:α→Bool} {bf:α→α→Bool} (tr:∀x y z,bf x y=true→bf y z=true→bf x z=true) (l:List α):b1x ok bf l 0=true↔(∀x∈l,ok x=true)∧l.Pairwise fun x y=>bf x y=true:=by
  have:=c3d (ok:=ok) tr l none
  have e:b1x ok bf l 0=b18 ok bf none l:=by simp [b1x]
  rw [e,this]
  simp
theorem c7s {α:Type} {R:α→α→Prop} (tr:∀x y z,R x y→R y z→R x z):∀(l:List α),(∀(i:Nat) (x y:α),l[i]? =some x→l[i+1]? =some y→R x y)→l.Pairwise R
  | [],_=>.nil
  | [x],_=>List.pairwise_singleton ..
  | x::y::l,h=>by
    have ih:=c7s tr (y::l) fun i a b ha hb=>h (i+1) a b (by simpa using ha) (by simpa using hb)
    refine List.pairwise_cons.2 ⟨fun z hz=> ?_,ih⟩
    have hxy:=h 0 x y rfl rfl
    rcases List.mem_cons.1 hz with rfl | hz
    · exact hxy
    · exact tr _ _ _ hxy ((List.pairwise_cons.1 ih).1 z hz)
theorem d6q {α:Type} {R:α→α→Prop} {l:List α} (h:l.Pairwise R) {i j:Nat} {x y:α} (hi:l[i]? =some x) (hj:l[j]? =some y) (hij:i < j):R x y:=by
  obtain ⟨h1,rfl⟩:=List.getElem?_eq_some_iff.1 hi
  obtain ⟨h2,rfl⟩:=List.getElem?_eq_some_iff.1 hj
  exact List.pairwise_iff_getElem.1 h i j h1 h2 hij
theorem d8l (a b c:ByteArray) (h:b2f a b=true) (k:b2f b c=true):b2f a c=true:=b7q h k
structure IncProp (x:TI):Prop where
  num:1≤x.1∧x.1≤999
  node:0≤x.2.1∧x.2.1≤13
  len:x.2.2.2.length≤12
  closed:x.2.2.1=true→x.2.2.2=[]
  nm:∀s∈x.2.2.2,b5t s=true
  srt:x.2.2.2.Pairwise fun a b=>b2f a b=true
theorem d20 (x:TI):c1h x=true↔IncProp x:=by
  simp only [c1h,Bool.and_eq_true,decide_eq_true_eq,Bool.not_eq_true',decide_eq_false_iff_not,d2j d8l,Bool.and_eq_false_imp]
  constructor
  · rintro ⟨⟨⟨⟨h1,h2⟩,h3⟩,h4⟩,h5,h6⟩
    exact ⟨h1,h2,by omega,fun q=>by have:=h4 q;exact List.length_eq_zero_iff.1 (by omega),h5,h6⟩
  · intro h
    refine ⟨⟨⟨⟨h.num,h.node⟩,by have:=h.len;omega⟩,fun q=> ?_⟩,h.nm,h.srt⟩
    rw [h.closed q];simp
theorem d1q (s:ByteArray) (l:List ByteArray):inS s l=true↔s∈l:=by
  simp [inS]
structure IncsProp (l:List TI):Prop where
  each:∀x∈l,IncProp x
  num:l.Pairwise fun x y=>x.1 < y.1
  dis:l.Pairwise fun x y=>∀s∈y.2.2.2,s ∉ x.2.2.2
  len:l.length≤8
theorem d3p (pre:List TI) (x:TI):b7v pre x=false↔∀y∈pre,∀s∈x.2.2.2,s ∉ y.2.2.2:=by
  rw [b7v,List.any_eq_false]
  constructor
  · intro h y hy s hs hsy
    have:=h s hs
    rw [Bool.not_eq_true,List.any_eq_false] at this
    exact this y hy ((d1q _ _).2 hsy)
  · intro h s hs
    rw [Bool.not_eq_true,List.any_eq_false]
    intro y hy hq
    exact h y hy s hs ((d1q _ _).1 hq)
theorem c6e (l:List TI):c2g l=true↔IncsProp l:=by
  rw [c2g,Bool.and_eq_true,List.all_eq_true,decide_eq_true_eq]
  constructor
  · rintro ⟨h,h8⟩
    have hp:∀(i:Nat) (x:TI),l[i]? =some x→IncProp x∧(∀(j:Nat) (y:TI),i=j+1→l[j]? =some y→y.1 < x.1)∧∀y∈l.take i,∀s∈x.2.2.2,s ∉ y.2.2.2:=by
      intro i x hx
      have hi:=(List.getElem?_eq_some_iff.1 hx).1
      have:=h i (List.mem_range.2 hi)
      rw [c1l,hx] at this
      simp only [Bool.and_eq_true,Bool.not_eq_true'] at this
      refine ⟨(d20 x).1 this.1.1,fun j y hj hy=> ?_,(d3p _ _).1 this.2⟩
      subst hj
      have h2:=this.1.2
      rw [decide_eq_false (by omega),Bool.false_or,Nat.add_sub_cancel,hy] at h2
      simpa using h2
    refine ⟨fun x hx=> ?_,c7s (fun x y z a b=>by omega) l fun i x y hx hy=>(hp (i+1) y hy).2.1 i x rfl hx,?_,by omega⟩
    · obtain ⟨i,hi,rfl⟩:=List.getElem_of_mem hx
      exact (hp i _ (List.getElem?_eq_getElem hi)).1
    · refine List.pairwise_iff_getElem.2 fun i j hi hj hij=> ?_
      refine (hp j _ (List.getElem?_eq_getElem hj)).2.2 _ ?_
      rw [List.mem_iff_getElem]
      exact ⟨i,by rw [List.length_take];omega,by rw [List.getElem_take]⟩
  · intro h
    refine ⟨fun i hi=> ?_,by have:=h.len;omega⟩
    have hi:=List.mem_range.1 hi
    rw [c1l,List.getElem?_eq_getElem hi]
    simp only [Bool.and_eq_true,Bool.not_eq_true']
    refine ⟨⟨(d20 _).2 (h.each _ (List.getElem_mem hi)),?_⟩,(d3p _ _).2 fun y hy=> ?_⟩
    · rcases Nat.eq_zero_or_pos i with q | q
      · subst q;rfl
      · rw [decide_eq_false (by omega),Bool.false_or,List.getElem?_eq_getElem (show i - 1 < l.length by omega)]
        simp only [decide_eq_true_eq]
        exact List.pairwise_iff_getElem.1 h.num (i - 1) i (by omega) hi (by omega)
    · obtain ⟨j,hj,rfl⟩:=List.mem_iff_getElem.1 hy
      rw [List.length_take] at hj
      rw [List.getElem_take]
      exact List.pairwise_iff_getElem.1 h.dis j i (by omega) hi (by omega)
theorem d3d (fl:List TA) (s:ByteArray):0≤b5a fl s↔∃a∈fl,a.1=s:=by
  constructor
  · intro h
    obtain ⟨k,x,h1,h2,_⟩:=f4l h
    exact ⟨x,List.mem_of_getElem? h1,h2⟩
  · rintro ⟨a,ha,rfl⟩
    have:=c0w (fun x:TA=>decide (x.1=a.1)) fl 0
    have h2:(fl.any fun x:TA=>decide (x.1=a.1))=true:=List.any_eq_true.2 ⟨a,ha,by simp⟩
    rw [h2,decide_eq_true_eq] at this
    exact this
theorem f1y (ins:List TI) (s:ByteArray):0≤c74 ins s↔∃x∈ins,s∈x.2.2.2:=by
  have:=d0h ins s
  constructor
  · intro h
    rw [decide_eq_true h] at this
    obtain ⟨x,hx,h2⟩:=List.any_eq_true.1 this.symm
    exact ⟨x,hx,(d1q _ _).1 h2⟩
  · rintro ⟨x,hx,hs⟩
    have h2:(ins.any fun y=>inS s y.2.2.2)=true:=List.any_eq_true.2 ⟨x,hx,(d1q _ _).2 hs⟩
    rw [h2,decide_eq_true_eq] at this
    exact this
theorem d2x (ins:List TI) (n:Int):0≤b5y ins n↔∃x∈ins,x.1=n∧x.2.2.1=false:=by
  have:=c0w (fun x:TI=>decide (x.1=n) && !x.2.2.1) ins 0
  have e:b5y ins n=b20 (fun x:TI=>decide (x.1=n) && !x.2.2.1) 0 ins:=rfl
  rw [e]
  constructor
  · intro h
    rw [decide_eq_true h] at this
    obtain ⟨x,hx,h2⟩:=List.any_eq_true.1 this.symm
    exact ⟨x,hx,by simpa using h2⟩
  · rintro ⟨x,hx,h1,h2⟩
    have h3:(ins.any fun x:TI=>decide (x.1=n) && !x.2.2.1)=true:=List.any_eq_true.2 ⟨x,hx,by simp [h1,h2]⟩
    rw [h3,decide_eq_true_eq] at this
    exact this
structure CtlProp (n:Int) (ss:List TS) (fl:List TA) (ins:List TI) (ws:List TW):Prop where
  town:b8o n ss=true
  ap:∀a∈fl,c49 a=true
  srt:fl.Pairwise fun x y=>b2f x.1 y.1=true
  fl12:fl.length≤12
  has:∀a∈fl,0≤a.2.2.1∧a.2.2.1 < n
  inc:IncsProp ins
  ws8:ws.length≤8
  node:∀x∈ins,0≤x.2.1∧x.2.1 < n
  names:∀x∈ins,∀s∈x.2.2.2,∃a∈fl,a.1=s
  busy:∀a∈fl,(1≤a.2.2.2.2∧a.2.2.2.2≤3)↔∃x∈ins,a.1∈x.2.2.2
  want:∀w∈ws,(∃x∈ins,x.1=w.1∧x.2.2.1=false)∧b3b w.2=true
  wsrt:ws.Pairwise fun x y=>x.1 < y.1
theorem d04 (n:Int) (ss:List TS) (fl:List TA) (ins:List TI) (ws:List TW):c2h n ss fl ins ws=true↔CtlProp n ss fl ins ws:=by
  have hbz:∀a:TA,b5d ins a=true↔((1≤a.2.2.2.2∧a.2.2.2.2≤3)↔∃x∈ins,a.1∈x.2.2.2):=by
    intro a
    rw [b5d,←f1y,c3o]
    by_cases h1:1≤a.2.2.2.2<;>by_cases h2:a.2.2.2.2≤3<;>by_cases h3:0≤c74 ins a.1<;>simp [h1,h2,h3]<;>omega
  have hw:(List.range ws.length).all (b5w ins ws)=true↔(∀w∈ws,(∃x∈ins,x.1=w.1∧x.2.2.1=false)∧b3b w.2=true)∧ws.Pairwise fun x y=>x.1 < y.1:=by
    rw [List.all_eq_true]
    constructor
    · intro h
      have hp:∀(i:Nat) (w:TW),ws[i]? =some w→(0≤b5y ins w.1∧b3b w.2=true)∧∀(j:Nat) (y:TW),i=j+1→ws[j]? =some y→y.1 < w.1:=by
        intro i w hx
        have:=h i (List.mem_range.2 (List.getElem?_eq_some_iff.1 hx).1)
        rw [b5w,hx] at this
        simp only [Bool.and_eq_true,decide_eq_true_eq] at this
        refine ⟨this.1,fun j y hj hy=> ?_⟩
        subst hj
        have h2:=this.2
        rw [decide_eq_false (by omega),Bool.false_or,Nat.add_sub_cancel,hy] at h2
        simpa using h2
      refine ⟨fun w hw=> ?_,c7s (fun x y z a b=>by omega) ws fun i x y hx hy=>(hp (i+1) y hy).2 i x rfl hx⟩
      obtain ⟨i,hi,rfl⟩:=List.getElem_of_mem hw
      have:=(hp i _ (List.getElem?_eq_getElem hi)).1
      exact ⟨(d2x _ _).1 this.1,this.2⟩
    · rintro ⟨h1,h2⟩ i hi
      have hi:=List.mem_range.1 hi
      rw [b5w,List.getElem?_eq_getElem hi]
      simp only [Bool.and_eq_true,decide_eq_true_eq]
      have hw:=h1 _ (List.getElem_mem hi)
      refine ⟨⟨(d2x _ _).2 hw.1,hw.2⟩,?_⟩
      rcases Nat.eq_zero_or_pos i with q | q
      · subst q;rfl
      · rw [decide_eq_false (by omega),Bool.false_or,List.getElem?_eq_getElem (show i - 1 < ws.length by omega)]
        simp only [decide_eq_true_eq]
        exact List.pairwise_iff_getElem.1 h2 (i - 1) i (by omega) hi (by omega)
  rw [c2h,d1y,dsB,Bool.and_eq_true,Bool.and_eq_true,Bool.and_eq_true,Bool.and_eq_true,Bool.and_eq_true,Bool.and_eq_true,Bool.and_eq_true,c6e,hw,List.all_eq_true,List.all_eq_true,List.all_eq_true,b6q,Bool.and_eq_true,
    d2j (bf:=c35) (fun a b c h k=>b7q (show b2f a.1 b.1=true from h) (show b2f b.1 c.1=true from k)),decide_eq_true_eq,Bool.not_eq_true',decide_eq_false_iff_not]
  constructor
  · rintro ⟨⟨⟨⟨⟨⟨⟨h1,⟨h2,h3⟩,h4⟩,h5⟩,h6⟩,h7⟩,h8⟩,h9⟩,h10,h11⟩
    have hn:=(b81 h1).1
    refine ⟨h1,h2,h3,by omega,fun a ha=> ?_,h6,by omega,fun x hx=> ?_,fun x hx s hs=> ?_,fun a ha=>(hbz a).1 (h9 a ha),h10,h11⟩
    · have:=h5 a ha
      rw [b5r hn] at this
      simpa using this
    · have:=h8 x hx
      rw [inP,Bool.and_eq_true,b5r hn] at this
      simpa using this.1
    · have:=h8 x hx
      rw [inP,Bool.and_eq_true,List.all_eq_true] at this
      exact (d3d _ _).1 (by simpa using this.2 s hs)
  · intro h
    have hn:=(b81 h.town).1
    refine ⟨⟨⟨⟨⟨⟨⟨h.town,⟨h.ap,h.srt⟩,by have:=h.fl12;omega⟩,fun a ha=> ?_⟩,h.inc⟩,by have:=h.ws8;omega⟩,fun x hx=> ?_⟩,fun a ha=>(hbz a).2 (h.busy a ha)⟩,h.want,h.wsrt⟩
    · rw [b5r hn]
      simpa using h.has a ha
    · rw [inP,Bool.and_eq_true,List.all_eq_true,b5r hn]
      exact ⟨by simpa using h.node x hx,fun s hs=>by simpa using (d3d _ _).2 (h.names x hx s hs)⟩
theorem f0a {fl:List TA} (hs:fl.Pairwise fun x y=>b2f x.1 y.1=true) {i j:Nat} {a b:TA} (hi:fl[i]? =some a) (hj:fl[j]? =some b) (e:a.1=b.1):i=j:=by
  rcases Nat.lt_trichotomy i j with h | h | h
  · have:=d6q hs hi hj h
    rw [e,b79] at this;cases this
  · exact h
  · have:=d6q hs hj hi h
    rw [e,b79] at this;cases this
theorem f6f {α:Type} {l:List α} {k:Nat} {y z:α} (h:z∈l.set k y):z=y∨∃i,i≠k∧l[i]? =some z:=by
  obtain ⟨i,hi,rfl⟩:=List.mem_iff_getElem.1 h
  rw [List.length_set] at hi
  rw [List.getElem_set]
  by_cases e:k=i
  · subst e;left;rw [if_pos rfl]
  · right;rw [if_neg e];exact ⟨i,fun q=>e q.symm,List.getElem?_eq_getElem hi⟩
theorem f3n {α:Type} {R:α→α→Prop} {l:List α} {k:Nat} {x y:α} (h:l.Pairwise R) (hx:l[k]? =some x) (h1:∀z,R z x→R z y) (h2:∀z,R x z→R y z):(l.set k y).Pairwise R:=by
  refine List.pairwise_iff_getElem.2 fun i j hi hj hij=> ?_
  rw [List.length_set] at hi hj
  have hk:=(List.getElem?_eq_some_iff.1 hx)
  obtain ⟨hkl,hkx⟩:=hk
  have hp:=List.pairwise_iff_getElem.1 h
  rw [List.getElem_set,List.getElem_set]
  by_cases e1:k=i
  · subst e1
    rw [if_pos rfl,if_neg (by omega)]
    exact h2 _ (by have:=hp k j hi hj hij;rwa [hkx] at this)
  · rw [if_neg e1]
    by_cases e2:k=j
    · subst e2
      rw [if_pos rfl]
      exact h1 _ (by have:=hp i k hi hj hij;rwa [hkx] at this)
    · rw [if_neg e2]
      exact hp i j hi hj hij
theorem d28:∀a b:List UInt8,Op.bytesLess a b=true∨a=b∨Op.bytesLess b a=true
  | [],[]=>.inr (.inl rfl)
  | [],_::_=>.inl rfl
  | _::_,[]=>.inr (.inr rfl)
  | x ::a,y::b=>by
    simp only [Op.bytesLess,Bool.or_eq_true,Bool.and_eq_true,decide_eq_true_eq,beq_iff_eq]
    by_cases h:x < y
    · exact .inl (.inl h)
    · by_cases h2:y < x
      · exact .inr (.inr (.inl h2))
      · have he:x=y:=by
          apply UInt8.toNat_inj.1
          have h1:¬x.toNat < y.toNat:=h
          have h3:¬y.toNat < x.toNat:=h2
          omega
        subst he
        rcases d28 a b with q | q | q
        · exact .inl (.inr ⟨rfl,q⟩)
        · exact .inr (.inl (by rw [q]))
        · exact .inr (.inr (.inr ⟨rfl,q⟩))
theorem c86 (a:ByteArray):a.toList=a.data.toList:=ByteArray.toList_eq a
theorem f2r (a b:ByteArray):b2f a b=true∨a=b∨b2f b a=true:=by
  unfold b2f
  rw [c86,c86]
  rcases d28 a.data.toList b.data.toList with q | q | q
  · exact .inl q
  · exact .inr (.inl (ByteArray.ext (Array.ext' q)))
  · exact .inr (.inr q)
theorem d8t (zs:List Int):(b4l zs).Perm zs:=List.mergeSort_perm ..
theorem f1b (zs:List Int):(b4l zs).Pairwise (·≤·):=by
  refine (List.pairwise_mergeSort (le:=fun x y=>decide (x≤y)) (fun a b c h k=> ?_) (fun a b=> ?_) zs).imp fun h=>by simpa using h
  · simp only [decide_eq_true_eq] at h k⊢;omega
  · simp only [Bool.or_eq_true,decide_eq_true_eq];omega
def c1i (s:ByteArray):List ByteArray→Nat
  | []=>0
  | x::l=>if b2f x s=true then c1i s l+1 else 0
def b5s (l:List ByteArray) (s:ByteArray):List ByteArray:=l.take (c1i s l)++s::l.drop (c1i s l)
theorem d0l (s:ByteArray):∀l:List ByteArray,c1i s l≤l.length
  | []=>Nat.le_refl _
  | x::l=>by
    have:=d0l s l
    rw [c1i,List.length_cons];split<;>omega
theorem f0x {s x:ByteArray} {l:List ByteArray} {k:Nat} (h:l[k]? =some x) (hx:b2f x s=true):k+c1i s (l.drop k)=(k+1)+c1i s (l.drop (k+1)):=by
  rw [b0r h,c1i,if_pos hx];omega
theorem d3y {s x:ByteArray} {l:List ByteArray} {k:Nat} (h:l[k]? =some x) (hx:b2f x s=false):c1i s (l.drop k)=0:=by
  rw [b0r h,c1i,if_neg (by rw [hx];decide)]
theorem d67 {s:ByteArray} {l:List ByteArray} {k:Nat} (h:l.length≤k):c1i s (l.drop k)=0:=by
  rw [List.drop_of_length_le h,c1i]
theorem d66 {s x:ByteArray}:∀{l:List ByteArray} {k:Nat},l[k]? =some x→b2f x s=false→c1i s l≤k
  | y::l,0,h,hx=>by
    simp only [List.getElem?_cons_zero,Option.some.injEq] at h
    subst h
    rw [c1i,if_neg (by rw [hx];decide)];omega
  | y::l,k+1,h,hx=>by
    have:=d66 (l:=l) (k:=k) (by simpa using h) hx
    rw [c1i];split<;>omega
theorem d2t {s x:ByteArray}:∀{l:List ByteArray} {k:Nat},l.Pairwise (fun a b=>b2f a b=true)→l[k]? =some x→b2f x s=true→k < c1i s l
  | y::l,0,_,h,hx=>by
    simp only [List.getElem?_cons_zero,Option.some.injEq] at h
    subst h
    rw [c1i,if_pos hx];omega
  | y::l,k+1,hp,h,hx=>by
    have h':l[k]? =some x:=by simpa using h
    have hp':=List.pairwise_cons.1 hp
    have:=d2t (l:=l) (k:=k) hp'.2 h' hx
    rw [c1i,if_pos (b7q (hp'.1 x (List.mem_of_getElem? h')) hx)];omega
theorem d6p (l:List ByteArray) (s:ByteArray):(b5s l s).length=l.length+1:=by
  have:=d0l s l
  rw [b5s,List.length_append,List.length_cons,List.length_take,List.length_drop];omega
theorem d0t {l:List ByteArray} {s t:ByteArray}:t∈b5s l s↔t=s∨t∈l:=by
  have e:t∈l↔t∈l.take (c1i s l)∨t∈l.drop (c1i s l):=by rw [←List.mem_append,List.take_append_drop]
  rw [b5s,List.mem_append,List.mem_cons,e]
  constructor
  · rintro (h | h | h)
    · exact .inr (.inl h)
    · exact .inl h
    · exact .inr (.inr h)
  · rintro (h | h | h)
    · exact .inr (.inl h)
    · exact .inl h
    · exact .inr (.inr h)
theorem f1t (x:ByteArray) (l:List ByteArray) (s:ByteArray):b5s (x::l) s=if b2f x s=true then x::b5s l s else s::x::l:=by
  rw [b5s,c1i]
  split
  · rw [List.take_succ_cons,List.drop_succ_cons];rfl
  · rfl
theorem d7d {s:ByteArray}:∀{l:List ByteArray},l.Pairwise (fun a b=>b2f a b=true)→s ∉ l→(b5s l s).Pairwise (fun a b=>b2f a b=true)
  | [],_,_=>List.pairwise_singleton ..
  | x ::l,h,hs=>by
    have hp:=List.pairwise_cons.1 h
    rw [f1t]
    split
    · rename_i hx
      refine List.pairwise_cons.2 ⟨fun y hy=> ?_,d7d hp.2 fun q=>hs (List.mem_cons_of_mem _ q)⟩
      rcases d0t.1 hy with rfl | q
      · exact hx
      · exact hp.1 y q
    · rename_i hx
      have hxs:b2f s x=true:=by
        rcases f2r s x with q | q | q
        · exact q
        · exact absurd (q ▸ List.mem_cons_self ..) hs
        · exact absurd q hx
      refine List.pairwise_cons.2 ⟨fun y hy=> ?_,h⟩
      rcases List.mem_cons.1 hy with rfl | q
      · exact hxs
      · exact b7q hxs (hp.1 y q)
def b3y (l N:List ByteArray):List ByteArray:=N.foldl b5s l
theorem d43 (l N:List ByteArray) (s:ByteArray):b3y l (N++[s])=b5s (b3y l N) s:=by rw [b3y,List.foldl_append];rfl
theorem c9b:∀(N l:List ByteArray),(b3y l N).length=l.length+N.length
  | [],l=>rfl
  | s::N,l=>by
    show (b3y (b5s l s) N).length=_
    rw [c9b N,d6p,List.length_cons];omega
theorem b4u {t:ByteArray}:∀{N l:List ByteArray},t∈b3y l N↔t∈l∨t∈N
  | [],l=>by rw [show b3y l []=l from rfl];simp
  | s ::N,l=>by
    rw [show b3y l (s::N)=b3y (b5s l s) N from rfl,b4u (N:=N),d0t,List.mem_cons]
    constructor
    · rintro ((h | h) | h)
      · exact .inr (.inl h)
      · exact .inl h
      · exact .inr (.inr h)
    · rintro (h | h | h)
      · exact .inl (.inr h)
      · exact .inl (.inl h)
      · exact .inr h
theorem c3v:∀{N l:List ByteArray},l.Pairwise (fun a b=>b2f a b=true)→N.Nodup→(∀s∈N,s ∉ l)→(b3y l N).Pairwise (fun a b=>b2f a b=true)
  | [],l,h,_,_=>h
  | s::N,l,h,hn,hd=>by
    have hn':=List.nodup_cons.1 hn
    refine c3v (N:=N) (l:=b5s l s) (d7d h (hd s (List.mem_cons_self ..))) hn'.2 fun t ht q=> ?_
    rcases d0t.1 q with e | q
    · exact hn'.1 (e ▸ ht)
    · exact hd t (List.mem_cons_of_mem _ ht) q
def b5u (k:Nat) (ins:List TI) (N:List ByteArray):List TI:=match ins[k]? with
  | some x=>ins.set k (x.1,x.2.1,x.2.2.1,b3y x.2.2.2 N)
  | none=>ins
theorem c1c {k:Nat} {ins:List TI} {x:TI} (h:ins[k]? =some x) (N:List ByteArray):b5u k ins N=ins.set k (x.1,x.2.1,x.2.2.1,b3y x.2.2.2 N):=by rw [b5u,h]
theorem c8s (k:Nat) (ins:List TI) (N:List ByteArray):(b5u k ins N).length=ins.length:=by
  rw [b5u];split
  · rw [List.length_set]
  · rfl
theorem d3m {k:Nat} {ins:List TI} {x:TI} (h:ins[k]? =some x):b5u k ins []=ins:=by
  rw [c1c h]
  apply List.ext_getElem?
  intro i
  by_cases e:k=i
  · subst e;rw [List.getElem?_set_self (List.getElem?_eq_some_iff.1 h).1,h];rfl
  · rw [List.getElem?_set_ne e]
theorem d17 {k:Nat} {ins:List TI} {x:TI} (h:ins[k]? =some x) (N:List ByteArray):(b5u k ins N)[k]? =some (x.1,x.2.1,x.2.2.1,b3y x.2.2.2 N):=by
  rw [c1c h];exact List.getElem?_set_self (List.getElem?_eq_some_iff.1 h).1
theorem d84 {k:Nat} {ins:List TI} {x:TI} (h:ins[k]? =some x) (N:List ByteArray) (s:ByteArray):(b5u k ins N).set k (x.1,x.2.1,x.2.2.1,b5s (b3y x.2.2.2 N) s)=b5u k ins (N++[s]):=by
  rw [c1c h,c1c h,List.set_set,d43]
def b7p (fl:List TA) (L:List Int):List TA:=L.foldl (fun f i=>match f[i.toNat]? with | some a=>f.set i.toNat (b5o a) | none=>f) fl
theorem c9n (fl:List TA) (L:List Int) {m:Nat} {a:TA} (h:(b7p fl L)[m]? =some a):b7p fl (L++[(m:Int)])=(b7p fl L).set m (b5o a):=by
  rw [b7p,List.foldl_append]
  show (match (b7p fl L)[((m:Int)).toNat]? with | some a=>(b7p fl L).set ((m:Int)).toNat (b5o a) | none=>b7p fl L)=_
  rw [Int.toNat_natCast,h]
theorem c6v (fl:List TA) (order:List Int):∀m,m≤fl.length→b7p fl (b6l order m)=b2x fl order m++fl.drop m
  | 0,_=>rfl
  | m + 1,h=>by
    have ih:=c6v fl order m (by omega)
    have ha:fl[m]? =some fl[m]:=List.getElem?_eq_getElem (by omega)
    rw [d0s]
    split
    · rename_i ho
      have hg:(b7p fl (b6l order m))[m]? =some fl[m]:=by rw [ih];exact c4s ha
      rw [c9n _ _ hg,ih,c94 ha ho]
    · rename_i ho
      rw [List.append_nil,ih,d3o ha ho]
theorem d2a (fl:List TA):∀L:List Int,(b7p fl L).length=fl.length:=by
  intro L
  induction L generalizing fl with
  | nil=>rfl
  | cons i L ih=>
    show (b7p (match fl[i.toNat]? with | some a=>fl.set i.toNat (b5o a) | none=>fl) L).length=_
    rw [ih]
    split
    · rw [List.length_set]
    · rfl
theorem b95 {order:List Int}:∀{m j:Nat} {i:Int},(b6l order m)[j]? =some i→∃q:Nat,i=(q:Int)∧q < m∧(q:Int)∈order∧(b6l order m).take j=b6l order q
  | 0,j,i,h=>by simp [b6l] at h
  | m + 1,j,i,h=>by
    rw [d0s] at h⊢
    by_cases hj:j < (b6l order m).length
    · rw [List.getElem?_append_left hj] at h
      obtain ⟨q,h1,h2,h3,h4⟩:=b95 h
      exact ⟨q,h1,by omega,h3,by rw [List.take_append_of_le_length (by omega)];exact h4⟩
    · rw [List.getElem?_append_right (by omega)] at h
      by_cases ho:(m:Int)∈order
      · rw [if_pos ho] at h
        have h0:j - (b6l order m).length=0:=by
          rcases Nat.eq_zero_or_pos (j - (b6l order m).length) with q | q
          · exact q
          · rw [List.getElem?_eq_none (by simp only [List.length_singleton];omega)] at h;cases h
        rw [h0,List.getElem?_cons_zero,Option.some.injEq] at h
        refine ⟨m,h.symm,by omega,ho,?_⟩
        rw [List.take_append_of_le_length (by omega),List.take_of_length_le (by omega)]
      · rw [if_neg ho] at h;simp at h
theorem f5v {order:List Int} {m:Nat} (hn:order.Nodup) (hv:∀i∈order,∃k:Nat,i=(k:Int)∧k < m):b4l order=b6l order m:=by
  refine List.Perm.eq_of_pairwise (le:=(·≤·)) (fun a b _ _ h1 h2=>by omega) ?_ ?_ ((d8t order).trans (f28 hn hv).symm)
  · exact f1b order
  · rw [b6l]
    refine List.Pairwise.filter _ ?_;refine List.Pairwise.map _ (fun a b h=> ?_) List.pairwise_lt_range
    exact Int.ofNat_le.2 (Nat.le_of_lt h)
end Go.Proofs.YtaefoaghpehbpaaGreat
