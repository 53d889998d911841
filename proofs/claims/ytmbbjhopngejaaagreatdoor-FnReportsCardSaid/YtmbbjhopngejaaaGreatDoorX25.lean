/- What functions compute. No condition. -/
import Derived.Test.YtmbbjhopngejaaaGreatDoorX23
set_option linter.unusedSimpArgs false
set_option linter.unusedVariables false
set_option linter.defProp false
namespace Go.Proofs.YtmbbjhopngejaaaGreatDoor
open Go Go.Vm
set_option maxHeartbeats 8000000
theorem f6m {α:Type} [DecidableEq α]:∀{l m:List α},l.Nodup→(∀x∈l,x∈m)→l.length≤m.length
  | [],m,_,_=>qle _
  | x::l,m,hn,hs=>by
    have hn':=List.nodup_cons.1 hn;have hx:=hs x (qlh ..);have:=f6m (l:=l) (m:=m.erase x) hn'.2 fun y hy=>(List.mem_erase_of_ne (a:=y) (b:=x) (fun e=>hn'.1 (by rw [←e];exact hy))).2 (hs y (qll _ hy))
    rw [List.length_erase_of_mem hx] at this;have h0:0 < m.length:=List.length_pos_of_mem hx;rw [qme];omega
section
variable {n:Int} {ss:List TS} {fl:List TA} {ins:List TI} {ws:List TW} {need:List Int}
theorem f1t (h:CtlProp n ss fl ins ws):DsFacts n ss fl:=by
  obtain ⟨t1,t2,t3⟩:=b7z h.town;refine ⟨t1,t2,t3,h.fl12,fun a ha=> ?_,h.srt⟩;have:=h.ap a ha;simp only [c0r,Bool.and_eq_true,decide_eq_true_eq] at this;exact ⟨this.1.1.1.2,h.has a ha⟩
theorem d9i (h:CtlProp n ss fl ins ws) {a:TA} (ha:a∈fl) (hv:b2k a=true):∀x∈ins,a.1 ∉ x.2.2.2:=by
  intro x hx hs;have hb:=(h.busy a ha).2 ⟨x,hx,hs⟩;simp only [b2k,Bool.and_eq_true,Bool.or_eq_true,decide_eq_true_eq] at hv;omega
theorem d4a (h:CtlProp n ss fl ins ws) (hn:need.length=4∧∀v∈need,0≤v∧v≤6) {node:Int} {s:ByteArray} (hs:s∈chN n ss fl node need):∀x∈ins,s ∉ x.2.2.2:=by
  obtain ⟨k,a,h1,h2,rfl⟩:=d6l hs;obtain ⟨k',a',e,h3,_,h4,_⟩:=f8q (f1t h) hn h1;have:k=k':=by omega
  subst this;rw [h2] at h3;cases h3;exact d9i h (qlb h2) h4
theorem f1j (h:CtlProp n ss fl ins ws) {k:Nat} {x:TI} (hk:ins[k]? =some x) (hn:need.length=4∧∀v∈need,0≤v∧v≤6):SendOK n ss fl ins k x need:=by
  have hx:=qlb hk;exact ⟨f1t h,hk,h.node x hx,hn,(h.inc.each x hx).srt,fun s hs=>d4a h hn hs x hx,(h.inc.each x hx).len,h.inc.len,fun y hy=>(h.inc.each y hy).len⟩
theorem d49 (fl:List TA) (order:List Int):∀m i,m≤fl.length→i < m→(b3p fl order m)[i]? =(fl[i]?).map fun a=>if (i:Int)∈order then b93 a else a
  | 0,i,_,h=>by omega
  | m + 1,i,hm,hi=>by
    have hl:=b62 fl order m (by omega);have ha:fl[m]? =some fl[m]:=qla (by omega);rw [b3p,ha]
    by_cases e:i < m
    · rw [qlz (by omega)]
      exact d49 fl order m i (by omega) e
    · have:i=m:=by omega
      subst this;rw [qlq (by omega),hl,Nat.sub_self,ha];rfl
theorem d8i {node:Int} (m:Nat):(chF n ss fl node need)[m]? =(fl[m]?).map fun a=>if (m:Int)∈chO n ss fl node need then b93 a else a:=by
  rcases qmf m fl.length with q | q
  · exact d49 fl _ _ m (qlw _) q
  · rw [List.getElem?_eq_none (by rw [chF,b62 fl _ _ (qlw _)];exact q),List.getElem?_eq_none q];rfl
theorem c8x {node:Int}:(chF n ss fl node need).length=fl.length:=b62 fl _ _ (qlw _)
theorem d5m {node:Int} {b:TA} (h:b∈chF n ss fl node need):∃(m:Nat) (a:TA),fl[m]? =some a∧b=if (m:Int)∈chO n ss fl node need then b93 a else a:=by
  obtain ⟨m,hm,rfl⟩:=qlu.1 h;have e:=d8i (n:=n) (ss:=ss) (fl:=fl) (node:=node) (need:=need) m;rw [qla hm] at e;have hl:m < fl.length:=by rwa [c8x] at hm
  rw [qla hl] at e;exact ⟨m,fl[m],qla hl,Option.some.inj e⟩
theorem b9z (a:TA) (p:Prop) [Decidable p]:(if p then b93 a else a).1=a.1:=by split<;>rfl
theorem f7f (h:CtlProp n ss fl ins ws) {node:Int} {m:Nat} {a:TA} (hm:fl[m]? =some a):a.1∈chN n ss fl node need↔(m:Int)∈chO n ss fl node need:=by
  constructor
  · intro hs
    obtain ⟨k,b,h1,h2,e⟩:=d6l hs;have:k=m:=c7o h.srt h2 hm e;subst this;exact h1
  · intro ho
    have hl:=(qlc.1 hm).1;rw [d6c];refine qmo.2 ⟨(m:Int),?_,by rw [nameAt,qli,hm]⟩;rw [c0y,List.mem_filter,decide_eq_true_eq];exact ⟨qmo.2 ⟨m,qmb.2 hl,rfl⟩,ho⟩
theorem f12 (h:CtlProp n ss fl ins ws) {k:Nat} {x:TI} (hk:ins[k]? =some x) (ho:x.2.2.1=false) (hn:need.length=4∧∀v∈need,0≤v∧v≤6):CtlProp n ss (chF n ss fl x.2.1 need) (b9y k ins (chN n ss fl x.2.1 need)) ws:=by
  have hS:=f1j h hk hn;have hxm:=qlb hk;have hxi:=h.inc.each x hxm;have hkl:=(qlc.1 hk).1;obtain ⟨N,hN⟩:∃N,N=chN n ss fl x.2.1 need:=⟨_,rfl⟩;have hfree:∀s∈N,∀y∈ins,s ∉ y.2.2.2:=fun s hs=>d4a h hn (by rw [←hN];exact hs)
  have hnd:N.Nodup:=by rw [hN];exact f6s (f1t h)
  have hNf:∀s∈N,∃a∈fl,a.1=s:=fun s hs=>by
    rw [hN] at hs;obtain ⟨m,a,_,h2,e⟩:=d6l hs;exact ⟨a,qlb h2,e⟩
  rw [←hN,c15 hk];let x':TI:=(x.1,x.2.1,x.2.2.1,b4k x.2.2.2 N);have hsrt:(b4k x.2.2.2 N).Pairwise (fun a b=>b2x a b=true):=c4o hxi.srt hnd fun s hs=>hfree s hs x hxm
  have hin:∀z∈ins.set k x',z=x'∨∃i,i≠k∧ins[i]? =some z:=fun z hz=>c09 hz
  have hmem:x'∈ins.set k x':=qlu.2 ⟨k,by rw [qlp];exact hkl,List.getElem_set_self ..⟩;have hold:∀i z,i≠k→ins[i]? =some z→z∈ins.set k x':=fun i z q hi=>qlb (by rw [qlg (fun e=>q e.symm)];exact hi)
  have hfl:∀s,(∃a∈fl,a.1=s)→∃b∈chF n ss fl x.2.1 need,b.1=s:=by
    rintro s ⟨a,ha,rfl⟩;obtain ⟨m,hm,rfl⟩:=qlu.1 ha;have e:=d8i (n:=n) (ss:=ss) (fl:=fl) (node:=x.2.1) (need:=need) m;rw [qla hm] at e;exact ⟨_,qlb e,b9z ..⟩
  have hxl:∀s∈b4k x.2.2.2 N,∃a∈fl,a.1=s:=fun s hs=>(b5c.1 hs).elim (h.names x hxm s) (hNf s)
  have hpl:(b4k x.2.2.2 N).length≤12:=by
    have h1:(b4k x.2.2.2 N).Nodup:=hsrt.imp fun q=>f5g q
    have h2:=f6m h1 (m:=fl.map (·.1)) fun s hs=>by
      obtain ⟨a,ha,e⟩:=hxl s hs;exact qmo.2 ⟨a,ha,e⟩
    rw [qmj] at h2;exact ql6 h2 h.fl12
  refine ⟨h.town,fun b hb=> ?_,?_,by rw [c8x];exact h.fl12,fun b hb=> ?_,⟨fun z hz=> ?_,c3f h.inc.num hk (fun z q=>q) (fun z q=>q),?_,by rw [qlp];exact h.inc.len⟩,h.ws8,fun z hz=> ?_,fun z hz s hs=> ?_,fun b hb=> ?_,fun w hw=> ?_,h.wsrt⟩
  · obtain ⟨m,a,hm,rfl⟩:=d5m hb
    have ha:=h.ap a (qlb hm);split
    · show c0r (a.1,a.2.1,a.2.2.1,a.2.2.2.1,1)=true
      simp only [c0r,Bool.and_eq_true,decide_eq_true_eq] at ha⊢;exact ⟨ha.1,by omega⟩
    · exact ha
  · refine qly.2 fun i j hi hj hij=> ?_
    have hp:=qly.1 h.srt;rw [c8x] at hi hj;have e1:=d8i (n:=n) (ss:=ss) (fl:=fl) (node:=x.2.1) (need:=need) i;have e2:=d8i (n:=n) (ss:=ss) (fl:=fl) (node:=x.2.1) (need:=need) j;rw [qla hi,qla (by rw [c8x];exact hi)] at e1;rw [qla hj,qla (by rw [c8x];exact hj)] at e2;rw [Option.some.inj e1,Option.some.inj e2,b9z,b9z];exact hp i j hi hj hij
  · obtain ⟨m,a,hm,rfl⟩:=d5m hb
    have:=h.has a (qlb hm);split<;>exact this
  · rcases hin z hz with rfl | ⟨i,_,hi⟩
    · have hcl:x'.2.2.1=true→x'.2.2.2=[]:=fun q=>by rw [show x'.2.2.1=x.2.2.1 from rfl,ho] at q;cases q
      have hnm:∀s∈x'.2.2.2,b4t s=true:=by
        intro s hs;rcases b5c.1 hs with q | q
        · exact hxi.nm s q
        · obtain ⟨a,ha,rfl⟩:=hNf s q
          have:=h.ap a ha;simp only [c0r,Bool.and_eq_true] at this;exact this.1.1.1.1
      exact ⟨hxi.num,hxi.node,hpl,hcl,hnm,hsrt⟩
    · exact h.inc.each z (qlb hi)
  · refine qly.2 fun i j hi hj hij=> ?_
    rw [qlp] at hi hj;have hp:=qly.1 h.inc.dis;have hxk:ins[k]=x:=(qlc.1 hk).2;rw [List.getElem_set,List.getElem_set]
    by_cases e1:k=i
    · subst e1
      rw [if_pos rfl,if_neg (by omega)];intro s hs q;rcases b5c.1 q with q | q
      · have:=hp k j hi hj hij s hs;rw [hxk] at this;exact this q
      · exact hfree s q _ (List.getElem_mem hj) hs
    · rw [if_neg e1]
      by_cases e2:k=j
      · subst e2
        rw [if_pos rfl];intro s hs q;rcases b5c.1 hs with z | z
        · exact hp i k hi hj hij s (by rw [hxk];exact z) q
        · exact hfree s z _ (List.getElem_mem hi) q
      · rw [if_neg e2];exact hp i j hi hj hij
  · rcases hin z hz with rfl | ⟨i,_,hi⟩
    · exact h.node x hxm
    · exact h.node z (qlb hi)
  · rcases hin z hz with rfl | ⟨i,_,hi⟩
    · exact hfl s (hxl s hs)
    · exact hfl s (h.names z (qlb hi) s hs)
  · obtain ⟨m,a,hm,rfl⟩:=d5m hb
    have ham:=qlb hm;have hiff:=f7f h (node:=x.2.1) (need:=need) hm;rw [←hN] at hiff;rw [b9z]
    by_cases hc:(m:Int)∈chO n ss fl x.2.1 need
    · rw [if_pos hc]
      exact ⟨fun _=>⟨x',hmem,b5c.2 (.inr (hiff.2 hc))⟩,fun _=>by simp [b93]⟩
    · rw [if_neg hc,h.busy a ham]
      constructor
      · rintro ⟨y,hy,hs⟩
        obtain ⟨i,hi,rfl⟩:=qlu.1 hy
        by_cases e:i=k
        · subst e
          refine ⟨x',hmem,b5c.2 (.inl ?_)⟩
          rwa [(qlc.1 hk).2] at hs
        · exact ⟨ins[i],hold i _ e (qla hi),hs⟩
      · rintro ⟨y,hy,hs⟩
        rcases hin y hy with rfl | ⟨i,_,hi⟩
        · rcases b5c.1 hs with q | q
          · exact ⟨x,hxm,q⟩
          · exact absurd (hiff.1 q) hc
        · exact ⟨y,qlb hi,hs⟩
  · obtain ⟨⟨y,hy,e1,e2⟩,hr⟩:=h.want w hw
    refine ⟨?_,hr⟩;obtain ⟨i,hi,rfl⟩:=qlu.1 hy
    by_cases e:i=k
    · subst e
      refine ⟨x',hmem,?_,?_⟩
      · rw [←e1,(qlc.1 hk).2]
      · exact ho
    · exact ⟨ins[i],hold i _ e (qla hi),e1,e2⟩
end
theorem c8s {n:Int} {ss:List TS} {fl:List TA} {node:Int} {need:List Int} (hn:need.length=4∧∀v∈need,0≤v∧v≤6):(chL n ss fl node need).length=4∧∀v∈chL n ss fl node need,0≤v∧v≤6:=by
  have h:=c1t (fl:=fl) hn (c2f fl (tmL n ss node));exact ⟨h.1,h.2.1⟩
theorem f4i {l:List Int} (h:l.length=4∧∀v∈l,0≤v∧v≤6):c3u l=true:=by
  simp only [c3u,Bool.and_eq_true,decide_eq_true_eq,List.all_eq_true,inR];exact ⟨by omega,h.2⟩
theorem f3m {P:Program} {f:FuncId} {xs ys rest:List V} {O O2:List Blk} {r:V} (hc:Con P f (.sl ys::rest) O r O2) (hw:WkL (xs.flatMap V.cells) (ys.flatMap V.cells)) (hlen:ys.length=xs.length) (hsz:∀n,(∀x∈xs,x.cells.length=n)→∀y∈ys,y.cells.length=n):Con P f (.sl xs::rest) O r O2:=by
  refine ⟨hc.1,fun w vals μ ow vis hi=>hc.2 w vals μ ow vis ⟨hi.sz,fun i v e=> ?_,hi.blk,hi.dom,hi.owl,hi.tab⟩⟩;cases i with
  | succ i=>exact hi.arg (i+1) v e
  | zero=>
    obtain ⟨bl,h1,h2⟩:=hi.arg 0 _ rfl;simp only [List.getElem?_cons_zero,Option.some.injEq] at e;subst e;generalize vals.getD 0 undef=x at h1;cases h1 with
    | sl0 a c=>
      have:ys=[]:=qlv.1 hlen;subst this;exact ⟨[],.sl0 a c,by simp⟩
    | sl _ b off c sz vs bl h0 hc' hs hz hl h1 hr=>
      obtain ⟨bl',g1,g2⟩:=RepL.wk hw hl;have hne:ys≠[]:=fun e=>h0 (qlv.1 (by rw [←hlen,e];rfl))
      rw [←hlen] at hc'⊢;exact ⟨b::bl',.sl ys b off c sz vs bl' hne hc' hs (hsz _ hz) g1 h1 hr,fun q hq=>h2 q ((g2.cons_cons b).subset hq)⟩
def c3y (ins:List TI):Int:=match ins[ins.length - 1]? with | some x=>x.1+1 | none=>1
def opB (ins:List TI):Bool:=decide (ins.length < 8) && decide (c3y ins≤999)
def c0o (ins:List TI) (node:Int):TI:=(c3y ins,node,false,[])
section
variable {n:Int} {ss:List TS} {fl:List TA} {ins:List TI} {ws:List TW} {node:Int}
theorem f6e (h:IncsProp ins):(∀x∈ins,x.1 < c3y ins)∧1≤c3y ins:=by
  rw [c3y];rcases ql8 ins.length with q | q
  · obtain rfl:ins=[]:=qlv.1 q
    exact ⟨(fun _ hx=>nomatch hx),by decide⟩
  · have hl:ins[ins.length - 1]? =some (ins[ins.length - 1]'(by omega)):=qla (by omega)
    rw [hl];simp only;refine ⟨fun x hx=> ?_,?_⟩
    · obtain ⟨i,hi,rfl⟩:=qlu.1 hx
      rcases qmf i (ins.length - 1) with e | e
      · have:=qly.1 h.num i (ins.length - 1) hi (by omega) e
        omega
      · have:i=ins.length - 1:=by omega
        subst this;exact Int.lt_succ _
    · have:=(h.each _ (List.getElem_mem (show ins.length - 1 < ins.length by omega))).num
      omega
theorem f2l (h:IncsProp ins) (hn:0≤node∧node≤13):b8d (ins++[c0o ins node])=opB ins:=by
  have hg:=f6e h;rw [Bool.eq_iff_iff,c1r,opB,qld,decide_eq_true_eq,decide_eq_true_eq];constructor
  · intro q
    have h1:=q.len;have h2:=(q.each (c0o ins node) (by simp)).num;rw [qls,ql1] at h1;exact ⟨by omega,h2.2⟩
  · rintro ⟨h1,h2⟩
    refine ⟨fun x hx=> ?_,?_,?_,?_⟩
    · rcases qlj.1 hx with q | q
      · exact h.each x q
      · rw [qlk] at q;subst q
        exact ⟨⟨hg.2,h2⟩,hn,qle _,fun _=>rfl,(fun _ hs=>nomatch hs),List.Pairwise.nil⟩
    · refine List.pairwise_append.2 ⟨h.num,List.pairwise_singleton ..,fun x hx y hy=> ?_⟩
      rw [qlk] at hy;subst hy;exact hg.1 x hx
    · refine List.pairwise_append.2 ⟨h.dis,List.pairwise_singleton ..,fun x hx y hy=> ?_⟩
      rw [qlk] at hy;subst hy;intro s hs;cases hs
    · rw [qls,ql1];omega
theorem d4c (h:CtlProp n ss fl ins ws) (hn:0≤node∧node < n) (hnn:n≤14) (ho:opB ins=true):CtlProp n ss fl (ins++[c0o ins node]) ws:=by
  have hi:IncsProp (ins++[c0o ins node]):=(c1r _).1 (by rw [f2l h.inc ⟨hn.1,by omega⟩];exact ho);have hm:∀x∈ins++[c0o ins node],x∈ins∨x=c0o ins node:=fun x hx=>by
    rcases qlj.1 hx with q | q
    · exact .inl q
    · exact .inr (qlk.1 q)
  refine ⟨h.town,h.ap,h.srt,h.fl12,h.has,hi,h.ws8,fun x hx=> ?_,fun x hx s hs=> ?_,fun a ha=> ?_,fun w hw=> ?_,h.wsrt⟩
  · rcases hm x hx with q | q
    · exact h.node x q
    · subst q;exact hn
  · rcases hm x hx with q | q
    · exact h.names x q s hs
    · subst q;cases hs
  · rw [h.busy a ha]
    constructor
    · rintro ⟨x,hx,hs⟩;exact ⟨x,qma _ hx,hs⟩
    · rintro ⟨x,hx,hs⟩
      rcases hm x hx with q | q
      · exact ⟨x,q,hs⟩
      · subst q;cases hs
  · obtain ⟨⟨x,hx,e⟩,r⟩:=h.want w hw
    exact ⟨⟨x,qma _ hx,e⟩,r⟩
theorem f2s {m:Int} {left:List Int} (h:CtlProp n ss fl ins ws) (ho:∃x∈ins,x.1=m∧x.2.2.1=false) (hl:b3i left=true) (hlt:∀w∈ws,w.1 < m):b2o n ss fl ins (ws++[(m,left)])=decide (ws.length < 8):=by
  rw [Bool.eq_iff_iff,b5q,decide_eq_true_eq];constructor
  · intro q
    have:=q.ws8;rw [qls,ql1] at this;omega
  · intro q
    refine ⟨h.town,h.ap,h.srt,h.fl12,h.has,h.inc,by rw [qls,ql1];omega,h.node,h.names,h.busy,fun w hw=> ?_,?_⟩
    · rcases qlj.1 hw with e | e
      · exact h.want w e
      · rw [qlk] at e;subst e;exact ⟨ho,hl⟩
    · refine List.pairwise_append.2 ⟨h.wsrt,List.pairwise_singleton ..,fun x hx y hy=> ?_⟩
      rw [qlk] at hy;subst hy;exact hlt x hx
end
def tkI (n:Int) (ss:List TS) (fl:List TA) (ins:List TI) (node:Int) (need:List Int):List TI:=b9y ins.length (ins++[c0o ins node]) (chN n ss fl node need)
def tkZ (n:Int) (ss:List TS) (fl:List TA) (node:Int) (need:List Int):Bool:=(chL n ss fl node need).all fun x:Int=>inR x 0 0
def tkW (n:Int) (ss:List TS) (fl:List TA) (ins:List TI) (ws:List TW) (node:Int) (need:List Int):List TW:=if tkZ n ss fl node need=true then ws else ws++[(c3y ins,chL n ss fl node need)]
section
variable {n:Int} {ss:List TS} {fl:List TA} {ins:List TI} {ws:List TW} {node:Int} {need:List Int}
theorem new_at:(ins++[c0o ins node])[ins.length]? =some (c0o ins node):=by simp
theorem f7n (h:CtlProp n ss fl ins ws) (hn:0≤node∧node < n) (hnn:n≤14) (ho:opB ins=true) (hd:need.length=4∧∀v∈need,0≤v∧v≤6):SendOK n ss fl (ins++[c0o ins node]) ins.length (c0o ins node) need:=
  f1j (d4c h hn hnn ho) new_at hd
theorem f8l:(tkI n ss fl ins node need).length=ins.length+1:=by rw [tkI,d4q,qls,ql1]
theorem f06 (h:CtlProp n ss fl ins ws) (hn:0≤node∧node < n) (hnn:n≤14) (ho:opB ins=true) (hd:need.length=4∧∀v∈need,0≤v∧v≤6):CtlProp n ss (chF n ss fl node need) (tkI n ss fl ins node need) ws:=by
  have q:=f12 (d4c h hn hnn ho) (x:=c0o ins node) (need:=need) new_at rfl hd;rw [show (c0o ins node).2.1=node from rfl] at q;rw [tkI];exact q
theorem d76 (h:CtlProp n ss fl ins ws) (hn:0≤node∧node < n) (hnn:n≤14) (ho:opB ins=true) (hd:need.length=4∧∀v∈need,0≤v∧v≤6) :
    b2o n ss (chF n ss fl node need) (tkI n ss fl ins node need) (tkW n ss fl ins ws node need)=(tkZ n ss fl node need || decide (ws.length < 8)):=by
  have hk:=f06 h hn hnn ho hd;rw [tkW];cases hz:tkZ n ss fl node need with
  | true=>rw [if_pos rfl];exact (b5q ..).2 hk
  | false=>
    rw [if_neg (by decide),Bool.false_or];have hl:=f4i (c8s (n:=n) (ss:=ss) (fl:=fl) (node:=node) hd);refine f2s hk ?_ ?_ fun w hw=> ?_
    · refine ⟨(c3y ins,node,false,b4k [] (chN n ss fl node need)),?_,rfl,rfl⟩
      rw [tkI];exact qlb (d3l new_at _)
    · rw [b3i,hl]
      show (!tkZ n ss fl node need)=true;rw [hz];rfl
    · obtain ⟨⟨x,hx,e,_⟩,_⟩:=h.want w hw
      rw [←e];exact (f6e h.inc).1 x hx
end
end Go.Proofs.YtmbbjhopngejaaaGreatDoor
