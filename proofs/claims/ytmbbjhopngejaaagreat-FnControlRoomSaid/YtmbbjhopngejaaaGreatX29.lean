/- What functions compute. No condition. -/
import Derived.Test.YtmbbjhopngejaaaGreatX19
set_option linter.all false
open List renaming sum_cons → Za, foldl_cons → Zb
open Bool renaming and_eq_true → Zc
namespace Go.Proofs.YtmbbjhopngejaaaGreat
open Go Go.Vm
set_option maxHeartbeats 8000000
section
variable {n:Int} {ss:List TS} {fl:List TA} {ins:List TI} {ws:List TW} {node:Int} {need:List Int}
theorem f5h (t:Int):g3i t=0∨g3i t=4:=by unfold g3i;split<;>simp
theorem c4u (names:List ByteArray) (a:TA):(if inS a.1 names=true then f0v a else a).1=a.1:=by split<;>rfl
theorem f6a (h:CtlProp n ss fl ins ws) {m:Int} (ho:0≤b3j ins m):CtlProp n ss (b7q fl (f3v ins m)) (g3j ins m) (c7w ws m):=by
  obtain ⟨k,x,hx,⟨hx1,hx2⟩,hk⟩:=b83 ho;obtain ⟨hN,hI⟩:=d9e hk hx;rw [hN,hI];have hxm:=qlb hx;have hxi:=h.inc.each x hxm;let x':TI:=(x.1,x.2.1,true,[]);have hin:∀z∈ins.set k x',z=x'∨∃i,i≠k∧ins[i]? =some z:=fun z hz=>c0n hz
  have hold:∀i z,i≠k→ins[i]? =some z→z∈ins.set k x':=fun i z q hi=>qlb (by rw [qld (fun e=>q e.symm)];exact hi)
  have hfm:∀b∈b7q fl x.2.2.2,∃a∈fl,b=if inS a.1 x.2.2.2=true then f0v a else a:=fun b hb=>by
    obtain ⟨a,ha,e⟩:=qmd.1 hb;exact ⟨a,ha,e.symm⟩
  have hfl:∀s,(∃a∈fl,a.1=s)→∃b∈b7q fl x.2.2.2,b.1=s:=by
    rintro s ⟨a,ha,rfl⟩;exact ⟨_,qmd.2 ⟨a,ha,rfl⟩,c4u ..⟩
  refine ⟨h.town,fun b hb=> ?_,?_,by rw [b7y];exact h.fl12,fun b hb=> ?_,⟨fun z hz=> ?_,c0w h.inc.num hx (fun z q=>q) (fun z q=>q),?_,by rw [qlr];exact h.inc.len⟩,ql7 (d3d ..) h.ws8,fun z hz=> ?_,fun z hz s hs=> ?_,fun b hb=> ?_,fun w hw=> ?_,h.wsrt.filter _⟩
  · obtain ⟨a,ha,rfl⟩:=hfm b hb
    have hao:=h.ap a ha;split
    · show c3f (a.1,a.2.1,a.2.2.1,a.2.2.2.1,g3i a.2.2.2.2)=true
      have hs:=f5h a.2.2.2.2;simp only [c3f,Zc,decide_eq_true_eq] at hao⊢;exact ⟨hao.1,by omega⟩
    · exact hao
  · rw [b7q,List.pairwise_map]
    exact h.srt.imp fun q=>by rw [c4u,c4u];exact q
  · obtain ⟨a,ha,rfl⟩:=hfm b hb
    have:=h.has a ha;split<;>exact this
  · rcases hin z hz with rfl | ⟨i,_,hi⟩
    · exact ⟨hxi.num,hxi.node,qle _,fun _=>rfl,(fun _ hs=>nomatch hs),List.Pairwise.nil⟩
    · exact h.inc.each z (qlb hi)
  · exact c0w h.inc.dis hx (fun z _ s hs=>nomatch hs) (fun z _ s _ hs=>nomatch hs)
  · rcases hin z hz with rfl | ⟨i,_,hi⟩
    · exact h.node x hxm
    · exact h.node z (qlb hi)
  · rcases hin z hz with rfl | ⟨i,_,hi⟩
    · exact nomatch hs
    · exact hfl s (h.names z (qlb hi) s hs)
  · obtain ⟨a,ha,rfl⟩:=hfm b hb
    rw [c4u];have hb:=h.busy a ha;cases q:inS a.1 x.2.2.2 with
    | true=>
      rw [if_pos rfl];have hax:=(c1r _ _).1 q;constructor
      · intro z
        have z:1≤g3i a.2.2.2.2∧g3i a.2.2.2.2≤3:=z;rcases f5h a.2.2.2.2 with e | e<;>rw [e] at z<;>omega
      · rintro ⟨y,hy,hs⟩
        rcases hin y hy with rfl | ⟨i,hik,hi⟩
        · exact nomatch hs
        · exact absurd (d59 h.inc.dis hi hx hs hax) hik
    | false=>
      rw [if_neg (by decide),hb];have hax:a.1 ∉ x.2.2.2:=fun z=>by rw [(c1r _ _).2 z] at q;cases q
      constructor
      · rintro ⟨y,hy,hs⟩
        obtain ⟨i,hi,rfl⟩:=ql0.1 hy
        by_cases e:i=k
        · subst e
          rw [(qlc.1 hx).2] at hs;exact absurd hs hax
        · exact ⟨_,hold i _ e (qla hi),hs⟩
      · rintro ⟨y,hy,hs⟩
        rcases hin y hy with rfl | ⟨i,_,hi⟩
        · exact nomatch hs
        · exact ⟨y,qlb hi,hs⟩
  · obtain ⟨hw1,hw2⟩:=List.mem_filter.1 hw
    obtain ⟨⟨y,hy,e1,e2⟩,hr⟩:=h.want w hw1;refine ⟨?_,hr⟩;obtain ⟨i,hi,rfl⟩:=ql0.1 hy;have hne:i≠k:=by
      intro e;subst e;rw [(qlc.1 hx).2,hx1] at e1;simp [e1] at hw2
    exact ⟨_,hold i _ hne (qla hi),e1,e2⟩
theorem d3m:∀(a b:List Int),b.length≤a.length→(c7y a b).sum=a.sum+b.sum
  | [],[],_=>rfl
  | [],_::_,h=>by simp at h
  | a::xs,[],_=>by rw [c8c];simp
  | a::xs,b::ys,h=>by
    rw [c7y,Za,Za,Za,d3m xs ys (by simpa using h)];omega
theorem d19 (ws:List TW) (w:TW) (h:w.2.length=4):(b4o (ws++[w]) (ws++[w]).length).sum=(b4o ws ws.length).sum+w.2.sum:=by
  have e1:(ws++[w])[ws.length]? =some w:=by simp
  rw [qln,ql1,b8d e1,d3m _ _ (by rw [b4k];omega)]
  congr 2
  rw [b4o,b4o,List.take_append_of_le_length (qly _)]
theorem g4n {ws:List TW} {i:Nat} {w:TW} (hw:ws[i]? =some w) (h:w.2.length=4):(b4o ws (i+1)).sum=(b4o ws i).sum+w.2.sum:=by
  rw [b8d hw,d3m _ _ (by rw [b4k];omega)]
theorem g3q:∀(l:List Int) (i:Nat) (v:Int),i < l.length→(l.set i v).sum=l.sum - l.getD i 0+v
  | x::l,0,v,_=>by simp;omega
  | x::l,i+1,v,h=>by
    rw [List.set_cons_succ,Za,Za,g3q l i v (by simpa using h)];simp;omega
theorem d2z:∀{l:List Int},l.all (fun x:Int=>inR x 0 0)=true→l.sum=0
  | [],_=>rfl
  | x::l,h=>by
    rw [List.all_cons,qlg] at h;rw [Za,d2z h.2];have:=h.1;simp [inR] at this;omega
theorem f6g (fl:List TA) (need:List Int):∀(order:List Int),(b8y fl order need).1.sum+((b8y fl order need).2.length:Int)=need.sum:=by
  have key:∀(order:List Int) (s:List Int×List Int),(order.foldl (b6r fl) s).1.sum+((order.foldl (b6r fl) s).2.length:Int)=s.1.sum+(s.2.length:Int):=by
    intro order
    induction order with
    | nil=>intro s;rfl
    | cons i l ih=>
      intro s;rw [Zb,ih];unfold b6r;split
      · rename_i a ha
        split
        · rename_i hp
          have hl:a.2.1.toNat < s.1.length:=by
            refine Nat.lt_of_not_le fun q=> ?_
            rw [qlo,List.getElem?_eq_none q] at hp;simp at hp
          rw [g3q _ _ _ hl,qln,ql1];omega
        · rfl
      · rfl
  intro order;have:=key order (need,[]);rw [b8y,this];simp
theorem f8l (hd:DsFacts n ss fl) (hn:need.length=4∧∀v∈need,0≤v∧v≤6):(chL n ss fl node need).sum+((chN n ss fl node need).length:Int)=need.sum:=by
  have h1:=f6g fl need (b7m fl (tmL n ss node));have h2:(chN n ss fl node need).length=(chO n ss fl node need).length:=by
    rw [c6t,qlu,←d2y hd hn,c1l]
  rw [h2];exact h1
theorem d1o (fl:List TA) (order:List Int) (ha:∀(k:Nat) (a:TA),(k:Int)∈order→fl[k]? =some a→b19 a=true):∀m,m≤fl.length→((b20 fl order m).filter b19).length+(b8r fl order m).length=((fl.take m).filter b19).length
  | 0,_=>rfl
  | m + 1,h=>by
    have ih:=d1o fl order ha m (by omega);have hm:fl[m]? =some fl[m]:=qla (by omega);rw [b20,c9i hm,qlx,hm];simp only [aQ,fQ,Option.toList_some,List.filter_append,List.length_append]
    by_cases ho:(m:Int)∈order
    · have hv:=ha m _ ho hm
      have hc:b19 (b4m fl[m])=false:=by simp [b19,b4m]
      simp only [aQ,fQ,if_pos ho,List.filter_cons,hv,hc,if_true,List.filter_nil,List.length_append,List.length_singleton,List.length_nil,Bool.false_eq_true,if_false];omega
    · simp only [if_neg ho]
      omega
theorem f2a (hd:DsFacts n ss fl) (hn:need.length=4∧∀v∈need,0≤v∧v≤6):(b3v (chF n ss fl node need) (chF n ss fl node need).length).length+(chN n ss fl node need).length=(b3v fl fl.length).length:=by
  have h:=d1o fl (chO n ss fl node need) (fun k a h1 h2=>by
    obtain ⟨k',a',e,h3,_,h4,_⟩:=d1v hd hn h1;have:k=k':=by omega
    subst this;rw [h2] at h3;cases h3;exact h4) fl.length (qly _)
  rw [b3v,b3v,qlu,qlu,ql9,ql9];rw [ql9] at h;exact h
theorem c3c {α β:Type} {p:α→Bool} {q:β→Bool}:∀{l:List α} {m:List β},l.map p=m.map q→(l.filter p).length=(m.filter q).length
  | [],[],_=>rfl
  | [],_::_,h=>by simp at h
  | _::_,[],h=>by simp at h
  | x::l,y::m,h=>by
    rw [qm5,qm5,List.cons.injEq] at h;have ih:=c3c (p:=p) (q:=q) h.2;rw [qms,qms,h.1];split
    · rw [qme,qme,ih]
    · exact ih
theorem g4x (h:CtlProp n ss fl ins ws) (hn:need.length=4∧∀v∈need,0≤v∧v≤6):(b3v (b7q (chF n ss fl node need) (b3l [] (chN n ss fl node need))) (b7q (chF n ss fl node need) (b3l [] (chN n ss fl node need))).length).length=(b3v fl fl.length).length:=by
  rw [b3v,b3v,qlu,qlu,ql9,ql9];refine c3c ?_;apply List.ext_getElem?;intro m;rw [qma,qma,b7q,qma,c7h];cases hm:fl[m]? with
  | none=>rfl
  | some a=>
    rw [qmv,qmv,qmv,qmv]
    congr 1
    have hiff:=f3i h (node:=node) (need:=need) hm;rw [b8u];have hin:inS a.1 (b3l [] (chN n ss fl node need))=decide ((m:Int)∈chO n ss fl node need):=by
      rw [Bool.eq_iff_iff,c1r,b4t,decide_eq_true_eq,←hiff];simp
    rw [hin]
    by_cases ho:(m:Int)∈chO n ss fl node need
    · obtain ⟨k',a',e,h3,_,h4,_⟩:=d1v (d0n h) hn ho
      have:m=k':=by omega
      subst this;rw [hm] at h3;cases h3;rw [if_pos ho,decide_eq_true ho,if_pos rfl,h4];simp only [b19,Zc] at h4;show b19 (f0v (b4m a))=true;simp only [b19,f0v,b4m,g3i,Zc];exact ⟨rfl,h4.2⟩
    · rw [if_neg ho,decide_eq_false ho,if_neg (by decide)]
structure TkDone (n:Int) (ss:List TS) (fl:List TA) (ins:List TI) (ws:List TW) (node:Int) (need:List Int):Prop where
  ctl:CtlProp n ss (chF n ss fl node need) (tkI n ss fl ins node need) (tkW n ss fl ins ws node need)
  opn:0≤b3j (tkI n ss fl ins node need) (b7o ins)
  nm:c87 (tkI n ss fl ins node need) (b7o ins)=b3l [] (chN n ss fl node need)
  fn:f3v (tkI n ss fl ins node need) (b7o ins)=b3l [] (chN n ss fl node need)
  ln:(b4n (chF n ss fl node need) (tkI n ss fl ins node need) (b7o ins)).length=(chN n ss fl node need).length
  st:∀v∈b4n (chF n ss fl node need) (tkI n ss fl ins node need) (b7o ins),v=1
  sm:(b4o (tkW n ss fl ins ws node need) (tkW n ss fl ins ws node need).length).sum - (b4o ws ws.length).sum+((chN n ss fl node need).length:Int)=need.sum
  fr:(b3v (chF n ss fl node need) (chF n ss fl node need).length).length+(chN n ss fl node need).length=(b3v fl fl.length).length
  bk:(b3v (b7q (chF n ss fl node need) (b3l [] (chN n ss fl node need))) (b7q (chF n ss fl node need) (b3l [] (chN n ss fl node need))).length).length=(b3v fl fl.length).length
theorem f9a (h:CtlProp n ss fl ins ws) (hn:0≤node∧node < n) (hnn:n≤14) (ho:opB ins=true) (hd:need.length=4∧∀v∈need,0≤v∧v≤6) (hc:(tkZ n ss fl node need || decide (ws.length < 8))=true):TkDone n ss fl ins ws node need:=by
  have hctl:=(b36 ..).1 ((c8q h hn hnn ho hd).trans hc);have hat:(tkI n ss fl ins node need)[ins.length]? =some (b7o ins,node,false,b3l [] (chN n ss fl node need)):=c5l new_at _;have hopn:0≤b3j (tkI n ss fl ins node need) (b7o ins):=(b8h _ _).2 ⟨_,qlb hat,rfl,rfl⟩;obtain ⟨k,x,hk,⟨hk1,hk2⟩,hkf⟩:=b83 hopn;have hke:k=ins.length:=by
    rcases Nat.lt_trichotomy k ins.length with q | q | q
    · have:=b85 hctl.inc.num hk hat q
      simp only at this;omega
    · exact q
    · have:=b85 hctl.inc.num hat hk q
      simp only at this;omega
  subst hke;rw [hat] at hk;cases hk;have hnm:=c6l hkf hat;have hfn:=(d9e hkf hat).1;refine ⟨hctl,hopn,hnm,hfn,?_,fun v hv=> ?_,?_,f2a (d0n h) hd,g4x h hd⟩
  · rw [b4n,hnm,qlu,c5v];simp
  · rw [b4n,hnm] at hv
    obtain ⟨s,hs,rfl⟩:=qmd.1 hv;have hs2:s∈chN n ss fl node need:=by
      rcases b4t.1 hs with q | q
      · cases q
      · exact q
    obtain ⟨j,a,hj,ha,rfl⟩:=d2r hs2;have hb:(chF n ss fl node need)[j]? =some (b4m a):=by rw [c7h,ha,qmv,if_pos hj]
    have hf:0≤b4l (chF n ss fl node need) a.1:=(c4t _ _).2 ⟨_,qlb hb,rfl⟩;obtain ⟨j2,b,hb2,hbs,hbf⟩:=c02 hf;have:j2=j:=c4i hctl.srt hb2 hb (by rw [hbs];rfl);subst this;rw [c9h hbf hb];rfl
  · have hs:=f8l (d0n h) (node:=node) hd
    cases hz:tkZ n ss fl node need with
    | true=>
      rw [f6y hz];have:=d2z (show (chL n ss fl node need).all (fun x:Int=>inR x 0 0)=true from hz);omega
    | false=>
      rw [g4q hz,d19 _ _ (b5z hd).1];show (b4o ws ws.length).sum+(chL n ss fl node need).sum - _+_=_;omega
def g0k (n:Int) (ss:List TS) (fl:List TA) (node:Int) (L:List Int):Prop:=∀(k:Nat) (a:TA),fl[k]? =some a→b8l fl (tmL n ss node) a=true→L.getD a.2.1.toNat 0≤0
theorem f2e {fl:List TA} {L:List Int}:∀(order:List Int),(∀i∈order,∀a,fl[i.toNat]? =some a→L.getD a.2.1.toNat 0≤0)→b8y fl order L=(L,[]):=by
  have key:∀(order:List Int),(∀i∈order,∀a,fl[i.toNat]? =some a→L.getD a.2.1.toNat 0≤0)→order.foldl (b6r fl) (L,[])=(L,[]):=by
    intro order
    induction order with
    | nil=>intro _;rfl
    | cons i l ih=>
      intro h;have e:b6r fl (L,[]) i=(L,[]):=by
        unfold b6r;split
        · rename_i a ha
          have:=h i (qlp ..) a ha;rw [if_neg (by show ¬0 < L.getD _ 0;omega)]
        · rfl
      rw [Zb,e];exact ih fun j hj=>h j (qlq _ hj)
  exact key
theorem f6z (fl:List TA):∀(order:List Int) (s:List Int×List Int) (c:Nat),(order.foldl (b6r fl) s).1.getD c 0≤s.1.getD c 0:=by
  intro order
  induction order with
  | nil=>intro s c;exact Int.le_refl _
  | cons i l ih=>
    intro s c;rw [Zb];refine Int.le_trans (ih (b6r fl s i) c) ?_;unfold b6r;split
    · rename_i a ha
      split
      · show (s.1.set a.2.1.toNat (s.1.getD a.2.1.toNat 0 - 1)).getD c 0≤_
        rw [qlo,qlo,List.getElem?_set]
        by_cases e:a.2.1.toNat=c
        · subst e
          rw [if_pos rfl];split
          · rw [qlo];simp;omega
          · rename_i hp _
            exact Int.le_of_lt hp
        · rw [if_neg e];exact Int.le_refl _
      · exact Int.le_refl _
    · exact Int.le_refl _
theorem g4u (fl:List TA):∀(order:List Int) (s:List Int×List Int) (i:Int) (a:TA),i∈order→fl[i.toNat]? =some a→i ∉ (order.foldl (b6r fl) s).2→(order.foldl (b6r fl) s).1.getD a.2.1.toNat 0≤0:=by
  have sub:∀(order:List Int) (s:List Int×List Int) (j:Int),j∈s.2→j∈(order.foldl (b6r fl) s).2:=by
    intro order
    induction order with
    | nil=>intro s j h;exact h
    | cons i l ih=>
      intro s j h;rw [Zb];refine ih _ j ?_;unfold b6r;split
      · split
        · exact qmb _ h
        · exact h
      · exact h
  intro order
  induction order with
  | nil=>intro s i a h;cases h
  | cons x l ih=>
    intro s i a hi ha hno;rw [Zb] at hno⊢;rcases qlv.1 hi with e | hi
    · subst e
      refine Int.le_trans (f6z fl l _ _) ?_
      by_cases hp:0 < s.1.getD a.2.1.toNat 0
      · exfalso
        refine hno (sub l _ i ?_);unfold b6r;rw [ha];simp only;rw [if_pos hp];exact qmq _ (qlm.2 rfl)
      · unfold b6r
        rw [ha];simp only;rw [if_neg hp];omega
    · exact ih _ i a hi ha hno
theorem g29 {fl:List TA} {ts:List Int} {k:Nat} {a:TA} (hk:fl[k]? =some a) (hr:b8l fl ts a=true):(k:Int)∈b7m fl ts:=by
  have key:∀m,k < m→(k:Int)∈b2k fl ts m:=by
    intro m
    induction m with
    | zero=>intro h;omega
    | succ m ih=>
      intro h;rw [b2k,qll]
      by_cases e:k < m
      · exact .inl (ih e)
      · have:k=m:=by omega
        subst this;right;rw [hk];simp only;rw [if_pos hr];exact qlm.2 rfl
  exact c4s.2 (key _ (qlc.1 hk).1)
theorem d3w (a:TA):b19 (b4m a)=false:=by simp [b19,b4m]
theorem g0y:g0k n ss (chF n ss fl node need) node (chL n ss fl node need):=by
  intro k _ hk hr;rw [c7h] at hk;cases hm:fl[k]? with
  | none=>rw [hm] at hk;cases hk
  | some a=>
    rw [hm,qmv,Option.some.injEq] at hk
    by_cases ho:(k:Int)∈chO n ss fl node need
    · rw [if_pos ho] at hk;subst hk
      rw [b8l,d3w] at hr;cases hr
    · rw [if_neg ho] at hk;subst hk
      exact g4u fl (b7m fl (tmL n ss node)) (need,[]) (k:Int) a (g29 hm hr) (by rw [qlh];exact hm) ho
theorem f7r {node2:Int} {need2 L:List Int} (h:g0k n ss fl node L):g0k n ss (chF n ss fl node2 need2) node L:=by
  intro k _ hk hr;rw [c7h] at hk;cases hm:fl[k]? with
  | none=>rw [hm] at hk;cases hk
  | some a=>
    rw [hm,qmv,Option.some.injEq] at hk
    by_cases ho:(k:Int)∈chO n ss fl node2 need2
    · rw [if_pos ho] at hk;subst hk
      rw [b8l,d3w] at hr;cases hr
    · rw [if_neg ho] at hk;subst hk
      exact h k a hm hr
theorem d1p (fl:List TA):∀m,m≤fl.length→b20 fl [] m=fl.take m
  | 0,_=>rfl
  | m+1,h=>by
    have hm:fl[m]? =some fl[m]:=qla (by omega);rw [b20,d1p fl m (by omega),qlx,hm];simp
theorem d9n (fl:List TA):∀m,b8r fl [] m=[]
  | 0=>rfl
  | m+1=>by
    rw [b8r,d9n fl m];split<;>simp
theorem f6i {L:List Int} (h:g0k n ss fl node L):chF n ss fl node L=fl∧chN n ss fl node L=[]∧chL n ss fl node L=L:=by
  have e:c1q n ss fl node L=(L,[]):=f2e _ fun i hi a ha=>by
    obtain ⟨k,a',h1,_,h3,h4⟩:=c2s hi;subst h1;rw [qlh,h3] at ha;cases ha;exact h k _ h3 h4
  have eo:chO n ss fl node L=[]:=by rw [chO,e]
  refine ⟨?_,?_,by rw [chL,e]⟩
  · rw [chF,eo,d1p fl _ (qly _),ql9]
  · rw [chN,eo,d9n]
structure FillMore (n:Int) (ss:List TS) (ins:List TI) (ws:List TW) (i:Nat) (st:d7c):Prop where
  node:∀j:Nat,(st.2.1[j]?).map (fun x=>x.2.1)=(ins[j]?).map (fun x=>x.2.1)
  sum:(b4o ws i).sum=(b4o st.2.2.1 st.2.2.1.length).sum+(st.2.2.2.length:Int)
  want:∀w∈st.2.2.1,(∃v∈ws.take i,v.1=w.1)∧w.2.length=4∧(∀v∈w.2,0≤v∧v≤6)∧w.2.all (fun x:Int=>inR x 0 0)=false
  srt:st.2.2.1.Pairwise fun x y=>x.1 < y.1
  blk:∀w∈st.2.2.1,∀x:TI,st.2.1[(b3j ins w.1).toNat]? =some x→g0k n ss st.1 x.2.1 w.2
theorem f0n:FillMore n ss ins ws 0 (b59 n ss fl ins ws 0):=
  ⟨fun _=>rfl,rfl,(fun _ hw=>nomatch hw),List.Pairwise.nil,(fun _ hw=>nomatch hw)⟩
theorem f0t {k:Nat} {ins:List TI} {x:TI} (h:ins[k]? =some x) (N:List ByteArray) (j:Nat):((b4i k ins N)[j]?).map (fun x=>x.2.1)=(ins[j]?).map (fun x=>x.2.1):=by
  rw [b84 h]
  by_cases e:k=j
  · subst e
    rw [qlf (qlc.1 h).1,h];rfl
  · rw [qld e]
theorem f4m (h:CtlProp n ss fl ins ws) {i:Nat} {w:TW} (hw:ws[i]? =some w) (hi:FillInv n ss ins i (b59 n ss fl ins ws i)) (hm:FillMore n ss ins ws i (b59 n ss fl ins ws i)):FillMore n ss ins ws (i+1) (b59 n ss fl ins ws (i+1)):=by
  obtain ⟨k,x,hk0,hk,hS,hn,hfs,hI⟩:=c5c h hw rfl hi;obtain ⟨st,hst⟩:∃st,st=b59 n ss fl ins ws i:=⟨_,rfl⟩;rw [←hst] at hi hm hk hS hfs;rw [hfs];have hcl:=b5z (n:=n) (ss:=ss) (fl:=st.1) (node:=x.2.1) hn;have hsm:=f8l hS.ds (node:=x.2.1) hn;have hpre:∀v∈ws.take i,v.1 < w.1:=fun v hv=>by
    obtain ⟨j,hj,rfl⟩:=ql0.1 hv;rw [qlj] at hj;rw [List.getElem_take];exact b85 h.wsrt (qla (by omega)) hw (by omega)
  have hnode:∀j:Nat,((b4i k st.2.1 (chN n ss st.1 x.2.1 w.2))[j]?).map (fun x=>x.2.1)=(st.2.1[j]?).map (fun x=>x.2.1):=f0t hS.at_ _;have hblk:∀v∈st.2.2.1,∀z:TI,(b4i k st.2.1 (chN n ss st.1 x.2.1 w.2))[(b3j ins v.1).toNat]? =some z→g0k n ss (chF n ss st.1 x.2.1 w.2) z.2.1 v.2:=fun v hv z hz=>by
    have e:=hnode (b3j ins v.1).toNat;rw [hz,qmv] at e;cases q:st.2.1[(b3j ins v.1).toNat]? with
    | none=>rw [q] at e;cases e
    | some y=>
      rw [q,qmv,Option.some.injEq] at e;rw [e];exact f7r (hm.blk v hv y q)
  refine ⟨fun j=>(hnode j).trans (hm.node j),?_,fun v hv=> ?_,?_,fun v hv z hz=> ?_⟩
  · rw [g4n hw hn.1,hm.sum,qln]
    show _=(b4o (if _ then _ else _) (List.length (if _ then _ else _))).sum+_;split
    · rename_i hz
      have:=d2z hz;omega
    · rw [d19 _ _ hcl.1]
      show _=_+(chL n ss st.1 x.2.1 w.2).sum+_;omega
  · have hv':v∈(if (chL n ss st.1 x.2.1 w.2).all (fun x:Int=>inR x 0 0)=true then st.2.2.1 else st.2.2.1++[(w.1,chL n ss st.1 x.2.1 w.2)]):=hv
    have old:v∈st.2.2.1→(∃u∈ws.take (i+1),u.1=v.1)∧v.2.length=4∧(∀u∈v.2,0≤u∧u≤6)∧v.2.all (fun x:Int=>inR x 0 0)=false:=fun q=>by
      obtain ⟨⟨u,hu,e⟩,r⟩:=hm.want v q;exact ⟨⟨u,by rw [qlx,hw];exact qmb _ hu,e⟩,r⟩
    split at hv'
    · exact old hv'
    · rename_i hz
      rcases qll.1 hv' with q | q
      · exact old q
      · rw [qlm] at q;subst q
        exact ⟨⟨w,by rw [qlx,hw];simp,rfl⟩,hcl.1,hcl.2,by simpa using hz⟩
  · show List.Pairwise _ (if _ then _ else _)
    split
    · exact hm.srt
    · refine List.pairwise_append.2 ⟨hm.srt,List.pairwise_singleton ..,fun u hu y hy=> ?_⟩
      rw [qlm] at hy;subst hy;obtain ⟨⟨v,hv,e⟩,_⟩:=hm.want u hu;rw [←e];exact hpre v hv
  · have hv':v∈(if (chL n ss st.1 x.2.1 w.2).all (fun x:Int=>inR x 0 0)=true then st.2.2.1 else st.2.2.1++[(w.1,chL n ss st.1 x.2.1 w.2)]):=hv
    split at hv'
    · exact hblk v hv' z hz
    · rcases qll.1 hv' with q | q
      · exact hblk v q z hz
      · rw [qlm] at q;subst q
        have hz':(b4i k st.2.1 (chN n ss st.1 x.2.1 w.2))[(b3j ins w.1).toNat]? =some z:=hz;rw [hk0,qlh,c5l hS.at_,Option.some.injEq] at hz';subst hz';exact g0y
theorem c8b (h:CtlProp n ss fl ins ws):∀i,i≤ws.length→FillInv n ss ins i (b59 n ss fl ins ws i)∧FillMore n ss ins ws i (b59 n ss fl ins ws i)
  | 0,_=>⟨c57 h,f0n⟩
  | i+1,hi=>by
    have ih:=c8b h i (by omega);have hw:ws[i]? =some ws[i]:=qla (by omega);obtain ⟨_,_,_,_,_,_,_,hI⟩:=c5c h hw rfl ih.1;exact ⟨hI,f4m h hw ih.1 ih.2⟩
structure FwDone (n:Int) (ss:List TS) (ws:List TW) (F:d7c):Prop where
  ctl:CtlProp n ss F.1 F.2.1 F.2.2.1
  sum:(b4o ws ws.length).sum - (b4o F.2.2.1 F.2.2.1.length).sum=(F.2.2.2.length:Int)
  again:b59 n ss F.1 F.2.1 F.2.2.1 F.2.2.1.length=(F.1,F.2.1,F.2.2.1,[])
  nl:F.2.2.2.length≤96
theorem g5j (h:CtlProp n ss fl ins ws):FwDone n ss ws (b59 n ss fl ins ws ws.length):=by
  obtain ⟨hI,hM⟩:=c8b h ws.length (qly _);obtain ⟨F,hF⟩:∃F,F=b59 n ss fl ins ws ws.length:=⟨_,rfl⟩;rw [←hF] at hI hM⊢;have hc:=hI.ctl;have hctl:CtlProp n ss F.1 F.2.1 F.2.2.1:=by
    refine ⟨hc.town,hc.ap,hc.srt,hc.fl12,hc.has,hc.inc,ql7 hI.wl h.ws8,hc.node,hc.names,hc.busy,fun w hw=> ?_,hM.srt⟩;obtain ⟨⟨v,hv,e⟩,h4,h6,hz⟩:=hM.want w hw;refine ⟨(b8h _ _).1 ?_,?_⟩
    · rw [hI.opn,←e]
      exact (b8h _ _).2 (h.want v (qlz hv)).1
    · rw [b3c,c8h ⟨h4,h6⟩]
      show (!w.2.all fun x:Int=>inR x 0 0)=true;rw [hz];rfl
  refine ⟨hctl,by have:=hM.sum;omega,?_,by have:=hI.nl;have:=h.ws8;omega⟩;have key:∀j,j≤F.2.2.1.length→b59 n ss F.1 F.2.1 F.2.2.1 j=(F.1,F.2.1,F.2.2.1.take j,[]):=by
    intro j
    induction j with
    | zero=>intro _;rfl
    | succ j ih=>
      intro _;have hw:F.2.2.1[j]? =some F.2.2.1[j]:=qla (by omega);have hwm:=qlb hw;rw [d0i hw,ih (by omega)];obtain ⟨⟨y,hy,e1,e2⟩,hr⟩:=hctl.want _ hwm;have hop:0≤b3j F.2.1 F.2.2.1[j].1:=(b8h _ _).2 ⟨y,hy,e1,e2⟩;obtain ⟨k,x,hk,_,hkf⟩:=b83 hop;have hb:=hM.blk _ hwm x (by rw [←hI.opn,hkf,qlh];exact hk);obtain ⟨b1,b2,b3⟩:=f6i hb;have hz:=(hM.want _ hwm).2.2.2;unfold d3g;simp only [hkf,Int.toNat_natCast,hk,b1,b2,b3,c5j hk,hz,Bool.false_eq_true,if_false,List.append_nil];rw [qlx,hw];rfl
  rw [key _ (qly _),ql9]
structure TkF (n:Int) (ss:List TS) (fl:List TA) (ws:List TW) (f1:List TA) (i1:List TI) (w1:List TW) (m:Int) (need:List Int):Prop where
  ctl:b3g n ss f1 i1 w1=true
  opn:0≤b3j i1 m
  st:∀v∈b4n f1 i1 m,v=1
  sl:(b4n f1 i1 m).length≤12
  sm:(b4o w1 w1.length).sum - (b4o ws ws.length).sum+((b4n f1 i1 m).length:Int)=need.sum
  fr:(b3v f1 f1.length).length+(b4n f1 i1 m).length=(b3v fl fl.length).length
  fin:b3g n ss (b7q f1 (f3v i1 m)) (g3j i1 m) (c7w w1 m)=true
  bk:(b3v (b7q f1 (f3v i1 m)) (b7q f1 (f3v i1 m)).length).length=(b3v fl fl.length).length
theorem g0z {tb:List (Int×Int×Int×Int×Int×Int×List Int)} {a b c:Int} (h:tkB n ss fl ins ws tb node a b c=true):TkF n ss fl ws (chF n ss fl node (nfL tb a b c)) (tkI n ss fl ins node (nfL tb a b c)) (tkW n ss fl ins ws node (nfL tb a b c)) (b7o ins) (nfL tb a b c)∧b3g n ss fl ins ws=true∧nfB tb a b c=true∧(nfL tb a b c).length=4∧∀v∈nfL tb a b c,0≤v∧v≤6:=by
  simp only [tkB,Zc] at h;have hK:=g5d (tb:=tb) (a:=a) (b:=b) (c:=c) h.1.1.1.1 h.1.1.1.2 h.1.1.2;have D:=f9a hK.p hK.nd hK.nn h.1.2 hK.need h.2;refine ⟨⟨(b36 ..).2 D.ctl,D.opn,D.st,?_,by rw [D.ln];exact D.sm,by rw [D.ln];exact D.fr,(b36 ..).2 (f6a D.ctl D.opn),by rw [D.fn];exact D.bk⟩,h.1.1.1.1,h.1.1.1.2,hK.need⟩;rw [D.ln];exact c1y (d0n hK.p)
theorem c4j (h:b3g n ss fl ins ws=true):∀x∈b4o ws ws.length,0≤x∧x≤1000:=fun x hx=>by
  have h1:=b8g (c9w (b5c h)) ws.length x hx;have h2:=((b36 ..).1 h).ws8;omega
theorem d16:∀{l:List Int},(∀x∈l,0≤x∧x≤1000)→0≤l.sum∧l.sum≤1000 * (l.length:Int)
  | [],_=>by simp
  | x::l,h=>by
    have h1:=h x (qlp ..);have h2:=d16 fun y hy=>h y (qlq _ hy)
    rw [Za,qme];omega
theorem g3c {m:Int} (h:∀x∈ins,x.2.2.2.length≤1048576):(b4n fl ins m).length≤1048576:=by
  rw [b4n,qlu,c87];split
  · rename_i x hx;exact h x (qlb hx)
  · simp
end
theorem c5b (l:List Int) (hl:l.length≤1048576) (hb:∀x∈l,0≤x∧x≤1000):Con Tryz.prog 16 [.sl (l.map (V.int .i64))] [] (.int .i64 l.sum) []:=by
 apply zcn [.tmp 2] [] Tryz.func16 Tryz.ntmps16;intro _ _ _;have T:=tq2 Y3 Y41;have F:=Fc.mk True.intro;apply yR [0];apply yR [0,3];apply b0e;intros;apply yR [3,6,7,8];apply b0g;intros;apply b05 (fun i=>⟨[(3,.int .i64 (l.take i).sum),(6,.sl (l.map (V.int .i64))),(7,.int .i64 l.length),(8,.int .i64 (Nat.cast i))],[],false,17,0⟩) (fun i=>i≤l.length∧0≤(l.take i).sum∧(l.take i).sum≤1000 * (i:Int)) (fun i=>l.length - i) 0
 ·refine b18 [3,6,7,8] ?_;simp only [b0r,b0k,b0i,b0f,b0n,Nat.reduceEqDiff,reduceIte];rfl
 ·exact ⟨qle _,by simp⟩
 ·rintro i hok6 Q6 n6 e6 r6;obtain ⟨hi1,hs⟩:=hok6;apply yR [3,6,7,8,9];apply b0e;intros;apply b0c _ rfl
  ·intro hc0;have hlt:i < l.length:=by omega
   obtain ⟨x,hx⟩:∃x,l[i]? =some x:=⟨l[i],qla hlt⟩;have hxb:=hb x (qlb hx);have hnx:(l.take (i+1)).sum=(l.take i).sum+x:=by rw [qlx,hx];simp
   apply zn [3,6,7,8];apply b0e;intros;apply b0g;intros;have F:=Fc.mk (gdm hx);apply yR [3,5,6,7,8];apply yQ [3,6,7,8];apply (yV);apply n6 _ (i+1)
   ·apply b0d [3,6,7,8] [];rw [hnx];rfl
   ·exact ⟨hlt,by rw [hnx];omega⟩
   ·show _ < _;omega
  ·intro hc0;apply zn [3];apply yR [2];apply (zr);have hie:l.take i=l:=ql3 (by omega);rw [hie];exact b0h rfl rfl (.inl rfl)
end Go.Proofs.YtmbbjhopngejaaaGreat
