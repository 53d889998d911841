/- What functions compute. No condition. -/
import Derived.Test.YtmbbjhopngejaaaGreatX16
set_option linter.all false
open List renaming set_cons_zero → Za, set_cons_succ → Zb, getElem?_cons_zero → Ze, getElem?_eq_none → Zf
open Bool renaming and_eq_true → Zc
open Array renaming replicate → Zd
open Go.Vm.V renaming int → Zg, str → Zh
namespace Go.Proofs.YtmbbjhopngejaaaGreat
open Go Go.Vm Tryz
set_option maxHeartbeats 8000000
theorem g5g {α:Type} [DecidableEq α]:∀{l m:List α},l.Nodup→(∀x∈l,x∈m)→l.length≤m.length
  | [],m,_,_=>qle _
  | x::l,m,hn,hs=>by
    have hn':=List.nodup_cons.1 hn;have hx:=hs x (qlp ..);have:=g5g (l:=l) (m:=m.erase x) hn'.2 fun y hy=>(List.mem_erase_of_ne (a:=y) (b:=x) (fun e=>hn'.1 (by rw [←e];exact hy))).2 (hs y (qlq _ hy))
    rw [List.length_erase_of_mem hx] at this;have h0:0 < m.length:=List.length_pos_of_mem hx;rw [qme];omega
section
variable {n:Int} {ss:List TS} {fl:List TA} {ins:List TI} {ws:List TW} {need:List Int}
theorem d0n (h:CtlProp n ss fl ins ws):DsFacts n ss fl:=by
  obtain ⟨t1,t2,t3⟩:=b74 h.town;refine ⟨t1,t2,t3,h.fl12,fun a ha=> ?_,h.srt⟩;have:=h.ap a ha;simp only [c3f,Zc,decide_eq_true_eq] at this;exact ⟨this.1.1.1.2,h.has a ha⟩
theorem g25 (h:CtlProp n ss fl ins ws) {a:TA} (ha:a∈fl) (hv:b19 a=true):∀x∈ins,a.1 ∉ x.2.2.2:=by
  intro x hx hs;have hb:=(h.busy a ha).2 ⟨x,hx,hs⟩;simp only [b19,Zc,Bool.or_eq_true,decide_eq_true_eq] at hv;omega
theorem d42 (h:CtlProp n ss fl ins ws) (hn:need.length=4∧∀v∈need,0≤v∧v≤6) {node:Int} {s:ByteArray} (hs:s∈chN n ss fl node need):∀x∈ins,s ∉ x.2.2.2:=by
  obtain ⟨k,a,h1,h2,rfl⟩:=d2r hs;obtain ⟨k',a',e,h3,_,h4,_⟩:=d1v (d0n h) hn h1;have:k=k':=by omega
  subst this;rw [h2] at h3;cases h3;exact g25 h (qlb h2) h4
theorem d65 (h:CtlProp n ss fl ins ws) {k:Nat} {x:TI} (hk:ins[k]? =some x) (hn:need.length=4∧∀v∈need,0≤v∧v≤6):SendOK n ss fl ins k x need:=by
  have hx:=qlb hk;exact ⟨d0n h,hk,h.node x hx,hn,(h.inc.each x hx).srt,fun s hs=>d42 h hn hs x hx,(h.inc.each x hx).len,h.inc.len,fun y hy=>(h.inc.each y hy).len⟩
theorem d4s (fl:List TA) (order:List Int):∀m i,m≤fl.length→i < m→(b20 fl order m)[i]? =(fl[i]?).map fun a=>if (i:Int)∈order then b4m a else a
  | 0,i,_,h=>by omega
  | m + 1,i,hm,hi=>by
    have hl:=b6y fl order m (by omega);have ha:fl[m]? =some fl[m]:=qla (by omega);rw [b20,ha]
    by_cases e:i < m
    · rw [qls (by omega)]
      exact d4s fl order m i (by omega) e
    · have:i=m:=by omega
      subst this;rw [qli (by omega),hl,qmz,ha];rfl
theorem c7h {node:Int} (m:Nat):(chF n ss fl node need)[m]? =(fl[m]?).map fun a=>if (m:Int)∈chO n ss fl node need then b4m a else a:=by
  rcases qmk m fl.length with q | q
  · exact d4s fl _ _ m (qly _) q
  · rw [Zf (by rw [chF,b6y fl _ _ (qly _)];exact q),Zf q];rfl
theorem c9n {node:Int}:(chF n ss fl node need).length=fl.length:=b6y fl _ _ (qly _)
theorem d67 {node:Int} {b:TA} (h:b∈chF n ss fl node need):∃(m:Nat) (a:TA),fl[m]? =some a∧b=if (m:Int)∈chO n ss fl node need then b4m a else a:=by
  obtain ⟨m,hm,rfl⟩:=ql0.1 h;have e:=c7h (n:=n) (ss:=ss) (fl:=fl) (node:=node) (need:=need) m;rw [qla hm] at e;have hl:m < fl.length:=by rwa [c9n] at hm
  rw [qla hl] at e;exact ⟨m,fl[m],qla hl,Option.some.inj e⟩
theorem b8u (a:TA) (p:Prop) [Decidable p]:(if p then b4m a else a).1=a.1:=by split<;>rfl
theorem f3i (h:CtlProp n ss fl ins ws) {node:Int} {m:Nat} {a:TA} (hm:fl[m]? =some a):a.1∈chN n ss fl node need↔(m:Int)∈chO n ss fl node need:=by
  constructor
  · intro hs
    obtain ⟨k,b,h1,h2,e⟩:=d2r hs;have:k=m:=c4i h.srt h2 hm e;subst this;exact h1
  · intro ho
    have hl:=(qlc.1 hm).1;rw [c6t];refine qmd.2 ⟨(m:Int),?_,by rw [nameAt,qlh,hm]⟩;rw [b7k,List.mem_filter,decide_eq_true_eq];exact ⟨qmd.2 ⟨m,qmc.2 hl,rfl⟩,ho⟩
theorem d44 (h:CtlProp n ss fl ins ws) {k:Nat} {x:TI} (hk:ins[k]? =some x) (ho:x.2.2.1=false) (hn:need.length=4∧∀v∈need,0≤v∧v≤6):CtlProp n ss (chF n ss fl x.2.1 need) (b4i k ins (chN n ss fl x.2.1 need)) ws:=by
  have hS:=d65 h hk hn;have hxm:=qlb hk;have hxi:=h.inc.each x hxm;have hkl:=(qlc.1 hk).1;obtain ⟨N,hN⟩:∃N,N=chN n ss fl x.2.1 need:=⟨_,rfl⟩;have hfree:∀s∈N,∀y∈ins,s ∉ y.2.2.2:=fun s hs=>d42 h hn (by rw [←hN];exact hs)
  have hnd:N.Nodup:=by rw [hN];exact g5h (d0n h)
  have hNf:∀s∈N,∃a∈fl,a.1=s:=fun s hs=>by
    rw [hN] at hs;obtain ⟨m,a,_,h2,e⟩:=d2r hs;exact ⟨a,qlb h2,e⟩
  rw [←hN,b84 hk];let x':TI:=(x.1,x.2.1,x.2.2.1,b3l x.2.2.2 N);have hsrt:(b3l x.2.2.2 N).Pairwise (fun a b=>b2v a b=true):=c6m hxi.srt hnd fun s hs=>hfree s hs x hxm
  have hin:∀z∈ins.set k x',z=x'∨∃i,i≠k∧ins[i]? =some z:=fun z hz=>c0n hz
  have hmem:x'∈ins.set k x':=ql0.2 ⟨k,by rw [qlr];exact hkl,List.getElem_set_self ..⟩;have hold:∀i z,i≠k→ins[i]? =some z→z∈ins.set k x':=fun i z q hi=>qlb (by rw [qld (fun e=>q e.symm)];exact hi)
  have hfl:∀s,(∃a∈fl,a.1=s)→∃b∈chF n ss fl x.2.1 need,b.1=s:=by
    rintro s ⟨a,ha,rfl⟩;obtain ⟨m,hm,rfl⟩:=ql0.1 ha;have e:=c7h (n:=n) (ss:=ss) (fl:=fl) (node:=x.2.1) (need:=need) m;rw [qla hm] at e;exact ⟨_,qlb e,b8u ..⟩
  have hxl:∀s∈b3l x.2.2.2 N,∃a∈fl,a.1=s:=fun s hs=>(b4t.1 hs).elim (h.names x hxm s) (hNf s)
  have hpl:(b3l x.2.2.2 N).length≤12:=by
    have h1:(b3l x.2.2.2 N).Nodup:=hsrt.imp fun q=>f6m q
    have h2:=g5g h1 (m:=fl.map (·.1)) fun s hs=>by
      obtain ⟨a,ha,e⟩:=hxl s hs;exact qmd.2 ⟨a,ha,e⟩
    rw [qlu] at h2;exact ql7 h2 h.fl12
  refine ⟨h.town,fun b hb=> ?_,?_,by rw [c9n];exact h.fl12,fun b hb=> ?_,⟨fun z hz=> ?_,c0w h.inc.num hk (fun z q=>q) (fun z q=>q),?_,by rw [qlr];exact h.inc.len⟩,h.ws8,fun z hz=> ?_,fun z hz s hs=> ?_,fun b hb=> ?_,fun w hw=> ?_,h.wsrt⟩
  · obtain ⟨m,a,hm,rfl⟩:=d67 hb
    have ha:=h.ap a (qlb hm);split
    · show c3f (a.1,a.2.1,a.2.2.1,a.2.2.2.1,1)=true
      simp only [c3f,Zc,decide_eq_true_eq] at ha⊢;exact ⟨ha.1,by omega⟩
    · exact ha
  · refine ql6.2 fun i j hi hj hij=> ?_
    have hp:=ql6.1 h.srt;rw [c9n] at hi hj;have e1:=c7h (n:=n) (ss:=ss) (fl:=fl) (node:=x.2.1) (need:=need) i;have e2:=c7h (n:=n) (ss:=ss) (fl:=fl) (node:=x.2.1) (need:=need) j;rw [qla hi,qla (by rw [c9n];exact hi)] at e1;rw [qla hj,qla (by rw [c9n];exact hj)] at e2;rw [Option.some.inj e1,Option.some.inj e2,b8u,b8u];exact hp i j hi hj hij
  · obtain ⟨m,a,hm,rfl⟩:=d67 hb
    have:=h.has a (qlb hm);split<;>exact this
  · rcases hin z hz with rfl | ⟨i,_,hi⟩
    · have hcl:x'.2.2.1=true→x'.2.2.2=[]:=fun q=>by rw [show x'.2.2.1=x.2.2.1 from rfl,ho] at q;cases q
      have hnm:∀s∈x'.2.2.2,b6a s=true:=by
        intro s hs;rcases b4t.1 hs with q | q
        · exact hxi.nm s q
        · obtain ⟨a,ha,rfl⟩:=hNf s q
          have:=h.ap a ha;simp only [c3f,Zc] at this;exact this.1.1.1.1
      exact ⟨hxi.num,hxi.node,hpl,hcl,hnm,hsrt⟩
    · exact h.inc.each z (qlb hi)
  · refine ql6.2 fun i j hi hj hij=> ?_
    rw [qlr] at hi hj;have hp:=ql6.1 h.inc.dis;have hxk:ins[k]=x:=(qlc.1 hk).2;rw [List.getElem_set,List.getElem_set]
    by_cases e1:k=i
    · subst e1
      rw [if_pos rfl,if_neg (by omega)];intro s hs q;rcases b4t.1 q with q | q
      · have:=hp k j hi hj hij s hs;rw [hxk] at this;exact this q
      · exact hfree s q _ (List.getElem_mem hj) hs
    · rw [if_neg e1]
      by_cases e2:k=j
      · subst e2
        rw [if_pos rfl];intro s hs q;rcases b4t.1 hs with z | z
        · exact hp i k hi hj hij s (by rw [hxk];exact z) q
        · exact hfree s z _ (List.getElem_mem hi) q
      · rw [if_neg e2];exact hp i j hi hj hij
  · rcases hin z hz with rfl | ⟨i,_,hi⟩
    · exact h.node x hxm
    · exact h.node z (qlb hi)
  · rcases hin z hz with rfl | ⟨i,_,hi⟩
    · exact hfl s (hxl s hs)
    · exact hfl s (h.names z (qlb hi) s hs)
  · obtain ⟨m,a,hm,rfl⟩:=d67 hb
    have ham:=qlb hm;have hiff:=f3i h (node:=x.2.1) (need:=need) hm;rw [←hN] at hiff;rw [b8u]
    by_cases hc:(m:Int)∈chO n ss fl x.2.1 need
    · rw [if_pos hc]
      exact ⟨fun _=>⟨x',hmem,b4t.2 (.inr (hiff.2 hc))⟩,fun _=>by simp [b4m]⟩
    · rw [if_neg hc,h.busy a ham]
      constructor
      · rintro ⟨y,hy,hs⟩
        obtain ⟨i,hi,rfl⟩:=ql0.1 hy
        by_cases e:i=k
        · subst e
          refine ⟨x',hmem,b4t.2 (.inl ?_)⟩
          rwa [(qlc.1 hk).2] at hs
        · exact ⟨ins[i],hold i _ e (qla hi),hs⟩
      · rintro ⟨y,hy,hs⟩
        rcases hin y hy with rfl | ⟨i,_,hi⟩
        · rcases b4t.1 hs with q | q
          · exact ⟨x,hxm,q⟩
          · exact absurd (hiff.1 q) hc
        · exact ⟨y,qlb hi,hs⟩
  · obtain ⟨⟨y,hy,e1,e2⟩,hr⟩:=h.want w hw
    refine ⟨?_,hr⟩;obtain ⟨i,hi,rfl⟩:=ql0.1 hy
    by_cases e:i=k
    · subst e
      refine ⟨x',hmem,?_,?_⟩
      · rw [←e1,(qlc.1 hk).2]
      · exact ho
    · exact ⟨ins[i],hold i _ e (qla hi),e1,e2⟩
end
theorem d1s {α:Type} {p:α→Bool}:∀{l:List α} {i k:Nat} {x y:α},l[k]? =some x→p x=p y→b2r p i (l.set k y)=b2r p i l
  | a::l,i,0,x,y,h,e=>by
    simp only [Ze,Option.some.injEq] at h;subst h;rw [Za,b2r,b2r,e]
  | a::l,i,k+1,x,y,h,e=>by
    rw [Zb,b2r,b2r,d1s (l:=l) (by simpa using h) e]
theorem g28 {k:Nat} {ins:List TI} {x:TI} (h:ins[k]? =some x) (N:List ByteArray) (m:Int):b3j (b4i k ins N) m=b3j ins m:=by
  rw [b84 h];exact d1s h rfl
theorem f9t {n:Int} {ss:List TS} {fl:List TA} {ins:List TI} {ws:List TW} (h:CtlProp n ss fl ins ws):CtlProp n ss fl ins []:=
  ⟨h.town,h.ap,h.srt,h.fl12,h.has,h.inc,qle _,h.node,h.names,h.busy,(fun _ hw=>nomatch hw),List.Pairwise.nil⟩
abbrev d7c:=List TA×List TI×List TW×List ByteArray
def d3g (n:Int) (ss:List TS) (st:d7c) (w:TW):d7c:=match st.2.1[(b3j st.2.1 w.1).toNat]? with
  | some x=>(chF n ss st.1 x.2.1 w.2,b4i (b3j st.2.1 w.1).toNat st.2.1 (chN n ss st.1 x.2.1 w.2),(if (chL n ss st.1 x.2.1 w.2).all (fun x:Int=>inR x 0 0)=true then st.2.2.1 else st.2.2.1++[(w.1,chL n ss st.1 x.2.1 w.2)]),st.2.2.2++chN n ss st.1 x.2.1 w.2)
  | none=>st
def b59 (n:Int) (ss:List TS) (fl:List TA) (ins:List TI) (ws:List TW) (i:Nat):d7c:=(ws.take i).foldl (d3g n ss) (fl,ins,[],[])
theorem d0i {n:Int} {ss:List TS} {fl:List TA} {ins:List TI} {ws:List TW} {i:Nat} {w:TW} (h:ws[i]? =some w):b59 n ss fl ins ws (i+1)=d3g n ss (b59 n ss fl ins ws i) w:=by
  rw [b59,qlx,h,List.foldl_append];rfl
structure FillInv (n:Int) (ss:List TS) (ins:List TI) (i:Nat) (st:d7c):Prop where
  ctl:CtlProp n ss st.1 st.2.1 []
  len:st.2.1.length=ins.length
  opn:∀m,b3j st.2.1 m=b3j ins m
  nl:st.2.2.2.length≤12 * i
  wl:st.2.2.1.length≤i
  w4:∀w∈st.2.2.1,w.2.length=4
theorem b5z {n:Int} {ss:List TS} {fl:List TA} {node:Int} {need:List Int} (hn:need.length=4∧∀v∈need,0≤v∧v≤6):(chL n ss fl node need).length=4∧∀v∈chL n ss fl node need,0≤v∧v≤6:=by
  have h:=b8c (fl:=fl) hn (b7m fl (tmL n ss node));exact ⟨h.1,h.2.1⟩
section
variable {n:Int} {ss:List TS} {fl:List TA} {ins:List TI} {ws:List TW} (h:CtlProp n ss fl ins ws)
include h
theorem c57:FillInv n ss ins 0 (b59 n ss fl ins ws 0):=
  ⟨f9t h,rfl,fun _=>rfl,qly _,qly _,fun _ hw=>nomatch hw⟩
theorem c5c {i:Nat} {w:TW} (hw:ws[i]? =some w) {st:d7c} (hst:st=b59 n ss fl ins ws i) (hi:FillInv n ss ins i st) :
    ∃ (k:Nat) (x:TI),b3j ins w.1=(k:Int)∧b3j st.2.1 w.1=(k:Int)∧SendOK n ss st.1 st.2.1 k x w.2∧(w.2.length=4∧∀v∈w.2,0≤v∧v≤6)∧
      b59 n ss fl ins ws (i+1)=(chF n ss st.1 x.2.1 w.2,b4i k st.2.1 (chN n ss st.1 x.2.1 w.2),(if (chL n ss st.1 x.2.1 w.2).all (fun x:Int=>inR x 0 0)=true then st.2.2.1 else st.2.2.1++[(w.1,chL n ss st.1 x.2.1 w.2)]),st.2.2.2++chN n ss st.1 x.2.1 w.2)∧
      FillInv n ss ins (i+1) (b59 n ss fl ins ws (i+1)):=by
  obtain ⟨⟨y,hy,e1,e2⟩,hr⟩:=h.want w (qlb hw);rw [b3c,qlg] at hr;have hn:=b5i hr.1;have hop:0≤b3j ins w.1:=(b8h _ _).2 ⟨y,hy,e1,e2⟩;have hop2:0≤b3j st.2.1 w.1:=by rw [hi.opn];exact hop
  obtain ⟨k,x,hx,⟨hx1,hx2⟩,hk⟩:=b83 hop2;have hk0:b3j ins w.1=(k:Int):=by rw [←hi.opn];exact hk
  have hS:=d65 hi.ctl hx hn;have hfs:=d0i (n:=n) (ss:=ss) (fl:=fl) (ins:=ins) hw;rw [←hst,d3g,hk,qlh,hx] at hfs;simp only at hfs;have hcl:=b5z (n:=n) (ss:=ss) (fl:=st.1) (node:=x.2.1) hn;refine ⟨k,x,hk0,hk,hS,hn,hfs,?_⟩;rw [hfs];refine ⟨d44 hi.ctl hx hx2 hn,?_,fun m=> ?_,?_,?_,fun z hz=> ?_⟩
  · show (b4i k st.2.1 _).length=_
    rw [c1u];exact hi.len
  · show b3j (b4i k st.2.1 _) m=_
    rw [g28 hx];exact hi.opn m
  · show (st.2.2.2++_).length≤_
    have:=c1y (node:=x.2.1) (need:=w.2) hS.ds;have:=hi.nl;rw [qln];omega
  · show (if _ then _ else _:List TW).length≤_
    have:=hi.wl;split
    · omega
    · rw [qln,ql1];omega
  · have hz':z∈(if (chL n ss st.1 x.2.1 w.2).all (fun x:Int=>inR x 0 0)=true then st.2.2.1 else st.2.2.1++[(w.1,chL n ss st.1 x.2.1 w.2)]):=hz
    split at hz'
    · exact hi.w4 z hz'
    · rcases qll.1 hz' with q | q
      · exact hi.w4 z q
      · rw [qlm] at q;subst q;exact hcl.1
end
theorem f4v:∀(l:List Int) (a:Int),0≤a→0≤b9o l a
  | [],a,h=>h
  | y::l,a,h=>by
    show 0≤b9o l (if y > a then y else a);refine f4v l _ ?_;split<;>omega
theorem c8h {l:List Int} (h:l.length=4∧∀v∈l,0≤v∧v≤6):c3t l=true:=by
  simp only [c3t,Zc,decide_eq_true_eq,List.all_eq_true,inR];exact ⟨by omega,h.2⟩
theorem f4r {x:Int} {l:List Int} (h:c3t (x::l)=true):(0 < b9o l x)↔(x::l).all (fun x:Int=>inR x 0 0)=false:=by
  have h1:=d2n h;have h2:=f4v l x ((b5i h).2 x (qlp ..)).1;rw [←h1,decide_eq_false_iff_not];omega
set_option maxRecDepth 100000 in
theorem d3j (n:Int) (ss:List TS) (fl:List TA) (ins:List TI) (ws:List TW) (hs:ss.length≤1048576) (hl:fl.length≤1048576) (hls:∀t∈fl,t.1.size≤9223372036854775807) (hil:ins.length≤1048576) (hin:∀x∈ins,x.2.2.2.length≤1048576) (his:∀x∈ins,∀s∈x.2.2.2,s.size≤9223372036854775807) (hwl:ws.length≤1048576) (hwn:∀x∈ws,x.2.length≤1048576):Con prog 22 [tQ n ss,kQ fl ins ws] [] (.tup [.agg [.ref 0,.ref 1,.ref 2],.ref 3,.bool (b3g n ss fl ins ws)]) [aQ rQa (b3r (b3g n ss fl ins ws) (b59 n ss fl ins ws ws.length).1),fQ rQb (b3r (b3g n ss fl ins ws) (b59 n ss fl ins ws ws.length).2.1),fQ rQc (b3r (b3g n ss fl ins ws) (b59 n ss fl ins ws ws.length).2.2.1),.arr ((b3r (b3g n ss fl ins ws) (b59 n ss fl ins ws ws.length).2.2.2).map Zh) .flat]:=by
 apply zcn [.cell 4 32,.tmp 5,.tmp 6] [] func22 ntmps22;intro _ _ _;have T:=tqa (c2r Y3 Y4 Y9 Y24 Y26 Y28 Y29 Y30 Y32 Y41 Y48 Y81) (tq3 Y96 Y98 b7w);have F:=Fc.mk True.intro;apply yR [2,3,4];apply b0e;intros;apply yRc [2,3,4,17] (b5n n ss fl ins ws hs hl hls hil hin his hwl hwn);apply b0c _ rfl
 ·intro hc0;have hB:(b3g n ss fl ins ws)=false:=by
   cases hq:(b3g n ss fl ins ws) with
   |false=>rfl
   |true=>simp [hq] at hc0
  apply yR [4,5,6];apply (zq3);simp only [aQ,fQ,hB,b3e,List.map_nil,List.length_nil,b5t];exact rta
 ·intro hc0;have hB:(b3g n ss fl ins ws)=true:=by
   cases hq:(b3g n ss fl ins ws) with
   |true=>rfl
   |false=>simp [hq] at hc0
  have hc:=b5c hB;have hp:=(b36 n ss fl ins ws).1 hB;apply zn [2,3,4];apply yRc [2,3,4,7] (b91 fl ins ws hl hil hin hwl hwn);apply yR [2,3,4,7];apply yR [2,3,4,7,8];apply b0e;intros;apply yR [2,3,4,7,8,23,24,25];apply b0g;intros;apply b05 (fun i=>⟨[(2,.ptr 0 0 0),(3,.ptr 1 0 0),(4,.ptr 5 0 0),(7,.ptr 9 0 0),(8,.ref 10),(23,sQ rQc ws),(24,.int .i64 ws.length),(25,.int .i64 (Nat.cast i))],[.box (tQ n ss) .shal,.box (kQ fl ins ws) .shal,eQ,eQ,eQ,bQ 2 3 4,.arr ((b59 n ss fl ins ws i).1.map rQa) .flat,.arr ((b59 n ss fl ins ws i).2.1.map rQb) (b1w (b59 n ss fl ins ws i).2.1.length),.arr ((b59 n ss fl ins ws i).2.2.1.map rQc) (b1w (b59 n ss fl ins ws i).2.2.1.length),bQ 6 7 8,.arr ((b59 n ss fl ins ws i).2.2.2.map Zh) .flat],false,62,0⟩) (fun i=>i≤ws.length∧FillInv n ss ins i (b59 n ss fl ins ws i)) (fun i=>ws.length - i) 0
  ·apply b1a [2,3,4,7,8,23,24,25] [0,1,2,3,4,5,7,8,14,13,15];rfl
  ·exact ⟨qle _,c57 hp⟩
  ·rintro i hok12 Q12 n12 e12 r12;obtain ⟨hi1,hI⟩:=hok12;apply yR [2,3,4,7,8,23,24,25,26];apply b0e;intros;apply b0c _ rfl
   ·intro hc1;have hlt:i < ws.length:=by omega
    obtain ⟨⟨x0,x1⟩,hx⟩:∃x:TW,ws[i]? =some x:=⟨ws[i]'(by omega),qla (by omega)⟩;obtain ⟨k,⟨y0,y1,y2,y3⟩,hk0,hk1,hS,hn4,hfs,hnx⟩:=c5c hp hx (st:=(b59 n ss fl ins ws i)) rfl hI;simp only [] at hk0 hk1 hn4 hfs;obtain ⟨st,hst⟩:∃st,st=(b59 n ss fl ins ws i):=⟨_,rfl⟩;have hI2:=hI;rw [←hst] at hI2 hS hk1 hfs;have hcl4:=(b5z (n:=n) (ss:=ss) (fl:=st.1) (node:=y1) hn4).1;have hcn:=c1y (node:=y1) (need:=x1) hS.ds;have hnl:=hI2.nl;have hwl2:=hI2.wl;have hln:=hI2.len;have hws8:=hp.ws8;have hf1:chF n ss st.1 y1 x1=(b59 n ss fl ins ws (i+1)).1:=by rw [hfs]
    have hf2:b4i k st.2.1 (chN n ss st.1 y1 x1)=(b59 n ss fl ins ws (i+1)).2.1:=by rw [hfs]
    have hf4:st.2.2.2.map Zh++(chN n ss st.1 y1 x1).map Zh=(b59 n ss fl ins ws (i+1)).2.2.2.map Zh:=by rw [←qmu,hfs]
    have hli:st.2.1.length=(b59 n ss fl ins ws (i+1)).2.1.length:=by rw [hln,hnx.len]
    rw [←hst];apply zn [2,3,4,7,8,23,24,25];apply b0e;intros;apply b0g;intros;have F:=fq3 (gdm hx) hk0 hcl4;apply yR [2,3,4,7,8,10,23,24,25];apply f3j
    ·intro _ n19 _ _;apply b1b (by kernel_rfl);intro _ q20 k20;show b13 _ _ _ _ 18 (Zd 18 false) _;refine b00 q20 true 0 30 ?_;refine b00 q20 true 1 31 ?_;refine zdU q20 true 2 32 ?_;refine b00 q20 true 3 33 ?_;refine zdU q20 true 4 34 ?_;refine b00 q20 true 5 35 ?_;refine zdU q20 true 7 37 ?_;refine b00 q20 true 8 38 ?_;apply b1e 6 14 rfl rfl (by kernel_rfl)
     ·apply zsc (b54 ins x0 hil);apply b1e 9 14 rfl rfl (by kernel_rfl)
      ·apply zsc (c2l n ss st.1 st.2.1 st.2.2.1 k y0 y1 y2 y3 x1 hS (by omega) (fun w hw=>by rw [hI2.w4 w hw];decide));refine zdU q20 true 10 29 ?_;refine zdU q20 true 11 40 ?_;refine zdU q20 false 12 41 ?_;refine zdU q20 false 13 42 ?_;apply c33 14;apply b06 15;apply b0q 16;apply b0q 17;apply b0b (by kernel_rfl);apply k20 _;apply n19 _;exact d3h [2,3,4,7,8,10,11,12,13,23,24,25] [0,1,2,3,4,5,6,7,8,9,10,11,12,13,14,15,16,17,18,19,20,21]
      ·apply (b35);apply zoc 9 (c2l n ss st.1 st.2.1 st.2.2.1 k y0 y1 y2 y3 x1 hS (by omega) (fun w hw=>by rw [hI2.w4 w hw];decide));refine zdU q20 true 10 29 ?_;refine zdU q20 true 11 40 ?_;refine zdU q20 false 12 41 ?_;refine zdU q20 false 13 42 ?_;apply b06 15;apply b0q 16;apply b0q 17;apply b0b (by kernel_rfl);apply k20 _;apply n19 _;exact b0t [2,3,4,7,8,10,11,12,13,23,24,25] [0,1,2,3,4,5,6,7,8,9,10,11,12,17,18,19,20,21,13,14,15,16]
     ·apply (b35);apply zoc 6 (b54 ins x0 hil);apply zoc 9 (c2l n ss st.1 st.2.1 st.2.2.1 k y0 y1 y2 y3 x1 hS (by omega) (fun w hw=>by rw [hI2.w4 w hw];decide));refine zdU q20 true 10 29 ?_;refine zdU q20 true 11 40 ?_;refine zdU q20 false 12 41 ?_;refine zdU q20 false 13 42 ?_;apply b06 15;apply b0q 16;apply b0q 17;apply b0b (by kernel_rfl);apply k20 _;apply n19 _;exact b0t [2,3,4,7,8,10,11,12,13,23,24,25] [0,1,2,3,4,5,6,7,8,9,10,11,12,17,18,19,20,21,13,14,15,16]
    ·apply (zkm);have F:=fq3 (gdm hx) hk0 hcl4;apply yR [2,3,4,7,8,10,12,13,23,24,25];apply yR [2,3,4,7,8,10,13,23,24,25];apply yRc [2,3,4,7,8,10,13,23,24,25,49] (c5f (chL n ss st.1 y1 x1) 0 0 (by omega));apply b0c _ rfl
     ·intro hc2;have hf3:(b59 n ss fl ins ws (i+1)).2.2.1=st.2.2.1++[(x0,chL n ss st.1 y1 x1)]:=by rw [hfs];simp [hc2]
      have hsn:st.2.2.1.map rQc++[V.agg [Zg .i64 x0,V.sl ((chL n ss st.1 y1 x1).map (Zg .i64))]]=(b59 n ss fl ins ws (i+1)).2.2.1.map rQc:=by rw [hf3];simp only [aQ,fQ,List.map_append];try rfl
      have hkd:st.2.2.1.length+1=(b59 n ss fl ins ws (i+1)).2.2.1.length:=by rw [hf3,qln];rfl
      apply yQ [2,3,4,7,8,23,24,25];apply (yV);apply n12 _ (i+1)
      ·apply b1a [2,3,4,7,8,23,24,25] [0,1,2,3,4,5,13,14,24,9,22];rw [hf1,hf2,hsn,hf4,hli,hkd];rfl
      ·exact ⟨hlt,hnx⟩
      ·show _ < _;omega
     ·intro hc2;have hf3:st.2.2.1=(b59 n ss fl ins ws (i+1)).2.2.1:=by rw [hfs];simp [hc2]
      apply zn [2,3,4,7,8,23,24,25];apply (yV);apply n12 _ (i+1)
      ·apply b1a [2,3,4,7,8,23,24,25] [0,1,2,3,4,5,13,14,15,9,22];rw [hf1,hf2,hf3,hf4,hli];rfl
      ·exact ⟨hlt,hnx⟩
      ·show _ < _;omega
   ·intro hc1;have hie:i=ws.length:=by omega
    subst hie;apply zn [4,7,8];apply yR [4,5,6];apply (zq3);simp only [hB,b14];exact rta
theorem d4x {P:Program} {f:FuncId} {xs ys rest:List V} {O O2:List Blk} {r:V} (hc:Con P f (.sl ys::rest) O r O2) (hw:WkL (xs.flatMap V.cells) (ys.flatMap V.cells)) (hlen:ys.length=xs.length) (hsz:∀n,(∀x∈xs,x.cells.length=n)→∀y∈ys,y.cells.length=n):Con P f (.sl xs::rest) O r O2:=by
  refine ⟨hc.1,fun w vals μ ow vis hi=>hc.2 w vals μ ow vis ⟨hi.sz,fun i v e=> ?_,hi.blk,hi.dom,hi.owl,hi.tab⟩⟩;cases i with
  | succ i=>exact hi.arg (i+1) v e
  | zero=>
    obtain ⟨bl,h1,h2⟩:=hi.arg 0 _ rfl;simp only [Ze,Option.some.injEq] at e;subst e;generalize vals.getD 0 undef=x at h1;cases h1 with
    | sl0 a c=>
      have:ys=[]:=qlt.1 hlen;subst this;exact ⟨[],.sl0 a c,by simp⟩
    | sl _ b off c sz vs bl h0 hc' hs hz hl h1 hr=>
      obtain ⟨bl',g1,g2⟩:=RepL.wk hw hl;have hne:ys≠[]:=fun e=>h0 (qlt.1 (by rw [←hlen,e];rfl))
      rw [←hlen] at hc'⊢;exact ⟨b::bl',.sl ys b off c sz vs bl' hne hc' hs (hsz _ hz) g1 h1 hr,fun q hq=>h2 q ((g2.cons_cons b).subset hq)⟩
theorem g0u (l:List TI):WkL ((l.map rQe).flatMap V.cells) ((l.map rQb).flatMap V.cells):=by
  induction l with
  | nil=>exact trivial
  | cons x l ih=>
    rw [qm5,qm5,ql2,ql2];refine WkL.append ?_ ih;refine ⟨.inl rfl,.inl rfl,.inl rfl,?_,trivial⟩;cases x.2.2.2 with
    | nil=>exact .inr (.inl ⟨rfl,rfl⟩)
    | cons y l=>exact .inl rfl
theorem f9e {P:Program} {f:FuncId} {l:List TI} {rest:List V} {O O2:List Blk} {r:V} (hc:Con P f (sQ rQb l::rest) O r O2):Con P f (sQ rQe l::rest) O r O2:=
  d4x hc (g0u l) (by simp) fun n hn y hy=>by
    obtain ⟨x,hx,rfl⟩:=qmd.1 hy;rw [←hn _ (qmd.2 ⟨x,hx,rfl⟩)];rfl
theorem d26 (l:List ByteArray) (hl:l=[]):Con prog 139 [.sl (l.map Zh)] [] (.nsl) []:=by
 have hns:(l.map Zh).all V.noSl=true:=by rw [qmp,qlk];intro _ _;rfl
 apply zcn [.tmp 2] [] func139 ntmps139;intro _ _ _;have T:=tq2 Y9 Y48;have F:=Fc.mk True.intro;have F:=Fc.mk hns;apply yR [0];apply b0e;intros;apply b1l [0,4];intro _ k3;apply (zU);apply (g1o);intro _ _;apply k3 _;apply (zk);apply b0c _ rfl
 ·intro hc0;apply b0e;intro _ n5 _ _;apply (yV);apply n5
  ·apply b0m (b0a [2] _);simp only [b0r,b0k,b0i,b0f,b0n,Nat.reduceEqDiff,reduceIte];exact d8v 1 2 .flat rfl (by simp) rfl
  try simp only [b04,b09,Nat.reduceEqDiff,reduceIte,Za,Zb]
  apply (zr);exact b0h rfl rfl (.inl rfl)
 ·intro hc0;apply zn [0];apply b0e;intro _ n7 _ _;apply (yV);apply n7
  ·apply b0m (b0a [2] _);simp only [b0r,b0k,b0i,b0f,b0n,Nat.reduceEqDiff,reduceIte];exact d8v 2 2 .flat (by subst hl;rfl) (by simp) rfl
  try simp only [b04,b09,Nat.reduceEqDiff,reduceIte,Za,Zb]
  apply (zr);exact b0h rfl rfl (.inl rfl)
theorem b5a (l:List TI) (hl:l.length≤1048576) (hls:∀t∈l,t.2.2.2.length≤1048576):Con prog 95 [sQ rQb l] [] (.ref 0) [fQ rQe l]:=by
 apply zcn [.tmp 2] [] func95 ntmps95;intro _ _ _;have T:=tq6 Y3 Y4 Y9 Y29 Y48 Y96;have F:=Fc.mk True.intro;apply yR [0];apply yR [0,3];apply b0e;intros;apply yR [3,6,7,8];apply b0g;intros;apply b05 (fun i=>⟨[(3,.ref 0),(6,sQ rQb l),(7,.int .i64 l.length),(8,.int .i64 (Nat.cast i))],[.arr ((l.take i).map rQe) (b1w i)],false,22,0⟩) (fun i=>i≤l.length) (fun i=>l.length - i) 0
 ·apply b0d [3,6,7,8] [1];rfl
 ·exact qle _
 ·rintro i hok6 Q6 n6 e6 r6;have hi1:i≤l.length:=hok6;apply yR [3,6,7,8,9];apply b0e;intros;apply b0c _ rfl
  ·intro hc0;have hlt:i < l.length:=by omega
   obtain ⟨⟨x0,x1,x2,x3⟩,hx⟩:∃x:TI,l[i]? =some x:=⟨l[i]'(by omega),qla (by omega)⟩;have hlx:=hls _ (qlb hx);simp only [] at hlx;have hsn:(l.take i).map rQe++[V.agg [Zg .i64 x0,Zg .i64 x1,V.bool x2,slN (x3.map Zh)]]=(l.take (i+1)).map rQe:=(b2t (f:=rQe) hx).symm;have hti:(l.take i).length=i:=by rw [qlj];omega
   have hg:=b3u (f:=rQb) hx;rcases ql8 x3.length with h3 | h3
   ·skip;obtain rfl:x3=[]:=qlt.1 h3;have hcl:=d26 [] rfl;have hsl:slN (([]:List ByteArray).map Zh)=.nsl:=rfl;rw [hsl] at hsn;first | simp only [aQ,fQ,rQb,List.map_nil] at hg | skip
    apply zn [3,6,7,8];apply b0e;intro _ n10 _ _;apply b0g;intros;have F:=fq2 hg hti;apply yR [3,5,6,7,8];apply b0e;intro _ n13 _ _;apply yVc (hcl);apply n13
    ·apply b0m (b0a [3,5,6,7,8] _);simp only [b0r,b0k,b0i,b0f,b0n,Nat.reduceEqDiff,reduceIte];exact f5a 2 3 [Zg .i64 x0,Zg .i64 x1,V.bool x2] rfl rfl (by decide) rfl rfl rfl
    try simp only [b04,b09,Nat.reduceEqDiff,reduceIte,Za,Zb]
    apply (yV);apply n10
    ·apply b0m (b0a [3,6,7,8] _);simp only [b0r,b0k,b0i,b0f,b0n,Nat.reduceEqDiff,reduceIte];first | exact c0v 5 i _ rfl | exact b2o _ _
    try simp only [b04,b09,Nat.reduceEqDiff,reduceIte,Za,Zb]
    apply (yV);apply n6 _ (i+1)
    ·apply b0d [3,6,7,8] [5]
     (try simp only [aQ,fQ]);rw [←hsn];rfl
    ·exact hlt
    ·show _ < _;omega
   ·skip;have hcl:=c65 x3 hlx;have hx3:x3≠[]:=fun e=>by rw [e] at h3;exact absurd h3 (by decide)
    rw [f8t hx3] at hsn;apply zn [3,6,7,8];apply b0e;intros;apply b0g;intros;have F:=fq2 hg hti;apply yR [3,5,6,7,8];apply yRc [3,5,6,7,8] (hcl);apply yQ [3,6,7,8];apply (yV);apply n6 _ (i+1)
    ·apply b0d [3,6,7,8] [5]
     (try simp only [aQ,fQ]);rw [←hsn];rfl
    ·exact hlt
    ·show _ < _;omega
  ·intro hc0;have hend:i=l.length:=by omega
   subst hend;apply zn [3];apply yR [2];apply (zr);rw [ql9];exact b1q rfl (by unfold b1w;split<;>rfl) rfl
set_option maxRecDepth 8000 in
theorem c7z (fl:List TA) (ins:List TI) (ws:List TW) (hl:fl.length≤1048576) (hil:ins.length≤1048576) (hin:∀x∈ins,x.2.2.2.length≤1048576) (hwl:ws.length≤1048576) (hwn:∀x∈ws,x.2.length≤1048576):Con prog 38 [.pv [kQ fl ins ws] 0 0] [] (.agg [.ref 0,.ref 1,.ref 2]) [aQ rQa fl,fQ rQe ins,fQ rQc ws]:=by
 apply zcn [.cell 2 32] [] func38 ntmps38;intro _ _ _;have T:=c2r Y3 Y4 Y9 Y28 Y29 Y30 Y32 Y41 Y48 Y81 Y96 Y98;have F:=Fc.mk True.intro;apply yR [0,2];apply b0e;intro _ n2 _ _;apply b1b (by kernel_rfl);intro _ q3 k3;show b13 _ _ _ _ 13 (Zd 13 false) _;refine zdU q3 true 0 6 ?_;refine zdU q3 true 1 7 ?_;refine zdU q3 true 2 8 ?_;refine b00 q3 true 3 9 ?_;refine zdU q3 true 5 11 ?_;refine zdU q3 true 6 12 ?_;refine zdU q3 true 7 13 ?_;refine b00 q3 true 8 14 ?_;apply b1e 4 11 rfl rfl (by kernel_rfl)
 ·apply zsc (b49 fl hl);apply b1e 9 11 rfl rfl (by kernel_rfl)
  ·apply zsc (b5a ins hil hin);refine b15 q3 true 10 16 ?_;apply c33 11;apply b06 12;apply b0b (by kernel_rfl);apply k3 _;apply n2 _ _ (b0a [0,2,3] _);apply (zk);apply b0e;intros;apply yR [2,3,20,21,22];apply b0g;intros;apply b05 (fun i=>⟨[(2,.ptr 3 0 0),(3,.ptr 7 0 0),(20,sQ rQc ws),(21,.int .i64 ws.length),(22,.int .i64 (Nat.cast i))],[eQ,eQ,eQ,bQ 0 1 2,aQ rQa fl,fQ rQe ins,.arr ((ws.take i).map rQc) (b1w i),bQ 4 5 6],false,39,0⟩) (fun i=>i≤ws.length) (fun i=>ws.length - i) 0
   ·apply b1a [2,3,20,21,22] [0,1,2,3,4,5,10,9];rfl
   ·exact qle _
   ·rintro i hok7 Q7 n7 e7 r7;have hi1:i≤ws.length:=hok7;apply yR [2,3,20,21,22,23];apply b0e;intros;apply b0c _ rfl
    ·intro hc0;have hlt:i < ws.length:=by omega
     obtain ⟨⟨x0,x1⟩,hx⟩:∃x:TW,ws[i]? =some x:=⟨ws[i]'(by omega),qla (by omega)⟩;have hlx:=hwn _ (qlb hx);simp only [] at hlx;have hsn:(ws.take i).map rQc++[V.agg [Zg .i64 x0,V.sl (x1.map (Zg .i64))]]=(ws.take (i+1)).map rQc:=(b2t (f:=rQc) hx).symm;have hti:(ws.take i).length=i:=by rw [qlj];omega
     apply zn [2,3,20,21,22];apply b0e;intro _ n11 _ _;apply b0g;intro _ n12 _ _ _;have F:=fq2 (gdm hx) hti;apply yR [2,3,5,20,21,22];apply b1b (by kernel_rfl);intro _ q14 k14;show b13 _ _ _ _ 12 (Zd 12 false) _;refine zdU q14 true 0 26 ?_;refine b00 q14 true 1 27 ?_;refine zdU q14 true 2 28 ?_;refine b00 q14 true 3 29 ?_;refine zdU q14 true 4 30 ?_;refine b00 q14 true 5 31 ?_;apply zoc 6 (b4g x1 hlx);refine b15 q14 true 7 33 ?_;apply b1j 8;apply b0l 9;refine zdU q14 true 10 36 ?_;apply b06 11;apply b0b (by kernel_rfl);apply k14 _;apply n12 _;apply n11 _ _ (b0a [2,3,20,21,22] _);apply (zk);apply (yV);apply n7 _ (i+1)
     ·apply b1a [2,3,20,21,22] [0,1,2,3,4,5,12,7]
      (try simp only [aQ,fQ]);rw [←hsn];rfl
     ·exact hlt
     ·show _ < _;omega
    ·intro hc0;have hend:i=ws.length:=by omega
     subst hend;apply zn [2,3];apply yR [2];apply (zq3);rw [ql9];exact rta
  ·apply (b35);apply zoc 9 (b5a ins hil hin);refine b15 q3 true 10 16 ?_;apply b06 12;apply b0b (by kernel_rfl);apply k3 _;apply n2 _ _ (b0a [0,2,3] _);apply (zk);apply b0e;intros;apply yR [2,3,20,21,22];apply b0g;intros;apply b05 (fun i=>⟨[(2,.ptr 3 0 0),(3,.ptr 7 0 0),(20,sQ rQc ws),(21,.int .i64 ws.length),(22,.int .i64 (Nat.cast i))],[eQ,eQ,eQ,bQ 0 1 2,aQ rQa fl,fQ rQe ins,.arr ((ws.take i).map rQc) (b1w i),bQ 4 5 6],false,39,0⟩) (fun i=>i≤ws.length) (fun i=>ws.length - i) 0
   ·apply b1a [2,3,20,21,22] [0,1,2,3,4,9,10,8];rfl
   ·exact qle _
   ·rintro i hok20 Q20 n20 e20 r20;have hi1:i≤ws.length:=hok20;apply yR [2,3,20,21,22,23];apply b0e;intros;apply b0c _ rfl
    ·intro hc0;have hlt:i < ws.length:=by omega
     obtain ⟨⟨x0,x1⟩,hx⟩:∃x:TW,ws[i]? =some x:=⟨ws[i]'(by omega),qla (by omega)⟩;have hlx:=hwn _ (qlb hx);simp only [] at hlx;have hsn:(ws.take i).map rQc++[V.agg [Zg .i64 x0,V.sl (x1.map (Zg .i64))]]=(ws.take (i+1)).map rQc:=(b2t (f:=rQc) hx).symm;have hti:(ws.take i).length=i:=by rw [qlj];omega
     apply zn [2,3,20,21,22];apply b0e;intro _ n24 _ _;apply b0g;intro _ n25 _ _ _;have F:=fq2 (gdm hx) hti;apply yR [2,3,5,20,21,22];apply b1b (by kernel_rfl);intro _ q27 k27;show b13 _ _ _ _ 12 (Zd 12 false) _;refine zdU q27 true 0 26 ?_;refine b00 q27 true 1 27 ?_;refine zdU q27 true 2 28 ?_;refine b00 q27 true 3 29 ?_;refine zdU q27 true 4 30 ?_;refine b00 q27 true 5 31 ?_;apply zoc 6 (b4g x1 hlx);refine b15 q27 true 7 33 ?_;apply b1j 8;apply b0l 9;refine zdU q27 true 10 36 ?_;apply b06 11;apply b0b (by kernel_rfl);apply k27 _;apply n25 _;apply n24 _ _ (b0a [2,3,20,21,22] _);apply (zk);apply (yV);apply n20 _ (i+1)
     ·apply b1a [2,3,20,21,22] [0,1,2,3,4,5,12,7]
      (try simp only [aQ,fQ]);rw [←hsn];rfl
     ·exact hlt
     ·show _ < _;omega
    ·intro hc0;have hend:i=ws.length:=by omega
     subst hend;apply zn [2,3];apply yR [2];apply (zq3);rw [ql9];exact rta
 ·apply (b35);apply zoc 4 (b49 fl hl);apply zoc 9 (b5a ins hil hin);refine b15 q3 true 10 16 ?_;apply b06 12;apply b0b (by kernel_rfl);apply k3 _;apply n2 _ _ (b0a [0,2,3] _);apply (zk);apply b0e;intros;apply yR [2,3,20,21,22];apply b0g;intros;apply b05 (fun i=>⟨[(2,.ptr 3 0 0),(3,.ptr 7 0 0),(20,sQ rQc ws),(21,.int .i64 ws.length),(22,.int .i64 (Nat.cast i))],[eQ,eQ,eQ,bQ 0 1 2,aQ rQa fl,fQ rQe ins,.arr ((ws.take i).map rQc) (b1w i),bQ 4 5 6],false,39,0⟩) (fun i=>i≤ws.length) (fun i=>ws.length - i) 0
  ·apply b1a [2,3,20,21,22] [0,1,2,3,8,9,10,7];rfl
  ·exact qle _
  ·rintro i hok33 Q33 n33 e33 r33;have hi1:i≤ws.length:=hok33;apply yR [2,3,20,21,22,23];apply b0e;intros;apply b0c _ rfl
   ·intro hc0;have hlt:i < ws.length:=by omega
    obtain ⟨⟨x0,x1⟩,hx⟩:∃x:TW,ws[i]? =some x:=⟨ws[i]'(by omega),qla (by omega)⟩;have hlx:=hwn _ (qlb hx);simp only [] at hlx;have hsn:(ws.take i).map rQc++[V.agg [Zg .i64 x0,V.sl (x1.map (Zg .i64))]]=(ws.take (i+1)).map rQc:=(b2t (f:=rQc) hx).symm;have hti:(ws.take i).length=i:=by rw [qlj];omega
    apply zn [2,3,20,21,22];apply b0e;intro _ n37 _ _;apply b0g;intro _ n38 _ _ _;have F:=fq2 (gdm hx) hti;apply yR [2,3,5,20,21,22];apply b1b (by kernel_rfl);intro _ q40 k40;show b13 _ _ _ _ 12 (Zd 12 false) _;refine zdU q40 true 0 26 ?_;refine b00 q40 true 1 27 ?_;refine zdU q40 true 2 28 ?_;refine b00 q40 true 3 29 ?_;refine zdU q40 true 4 30 ?_;refine b00 q40 true 5 31 ?_;apply zoc 6 (b4g x1 hlx);refine b15 q40 true 7 33 ?_;apply b1j 8;apply b0l 9;refine zdU q40 true 10 36 ?_;apply b06 11;apply b0b (by kernel_rfl);apply k40 _;apply n38 _;apply n37 _ _ (b0a [2,3,20,21,22] _);apply (zk);apply (yV);apply n33 _ (i+1)
    ·apply b1a [2,3,20,21,22] [0,1,2,3,4,5,12,7]
     (try simp only [aQ,fQ]);rw [←hsn];rfl
    ·exact hlt
    ·show _ < _;omega
   ·intro hc0;have hend:i=ws.length:=by omega
    subst hend;apply zn [2,3];apply yR [2];apply (zq3);rw [ql9];exact rta
end Go.Proofs.YtmbbjhopngejaaaGreat
