/- What functions compute. No condition. -/
import Derived.Test.YtmbbjhopngejaaaGreatDoorX17
set_option linter.unusedSimpArgs false
set_option linter.unusedVariables false
set_option linter.defProp false
namespace Go.Proofs.YtmbbjhopngejaaaGreatDoor
open Go Go.Vm
set_option maxHeartbeats 8000000
def d1t (x:TA):ByteArray:=x.1++(⟨#[47]⟩:ByteArray)++b5x x.2.1.toNat++(⟨#[47]⟩:ByteArray)++b5x x.2.2.1.toNat++(⟨#[47]⟩:ByteArray)++b5x x.2.2.2.1.toNat++(⟨#[47]⟩:ByteArray)++b5x x.2.2.2.2.toNat++(⟨#[59]⟩:ByteArray)
def b6s (l:List TA):ByteArray:=l.foldl (fun s x=>s++d1t x) .empty
def b8s (x:TI):ByteArray:=b5x x.1.toNat++(⟨#[64]⟩:ByteArray)++b5x x.2.1.toNat
def b9a (x:TI):ByteArray:=(if x.2.2.1=true then b8s x++(⟨#[33]⟩:ByteArray) else b8s x)++(⟨#[58]⟩:ByteArray)++b5m x.2.2.2 (⟨#[44]⟩:ByteArray)
def d2h (x:TW):ByteArray:=b5x x.1.toNat++(⟨#[42]⟩:ByteArray)++d2t (c8e x.2)++(⟨#[59]⟩:ByteArray)
def d0o (s:ByteArray) (l:List TW):ByteArray:=l.foldl (fun s x=>s++d2h x) s
def c39 (fl:List TA) (ins:List TI):ByteArray:=b6s fl++(⟨#[124]⟩:ByteArray)++b5m (ins.map b9a) (⟨#[32]⟩:ByteArray)++(⟨#[124]⟩:ByteArray)
def f68 (fl:List TA) (ins:List TI) (ws:List TW):ByteArray:=d0o (c39 fl ins) ws
def c99 (b:Bool) (fl:List TA) (ins:List TI) (ws:List TW):ByteArray:=if b=true then f68 fl ins ws else .empty
theorem c7w {l:List TA} {i:Nat} {x:TA} (h:l[i]? =some x):b6s (l.take (i+1))=b6s (l.take i)++d1t x:=by
  rw [b6s,ql2,h,List.foldl_append];rfl
theorem c62 {s:ByteArray} {l:List TW} {i:Nat} {x:TW} (h:l[i]? =some x):d0o s (l.take (i+1))=d0o s (l.take i)++d2h x:=by
  rw [d0o,ql2,h,List.foldl_append];rfl
theorem d0p (sep x:List UInt8):∀l:List (List UInt8),l≠[]→Lib.join (l++[x]) sep=Lib.join l sep++sep++x
  | [],h=>absurd rfl h
  | [a],_=>by simp [Lib.join,List.intercalate]
  | a::b::l,_=>by
    have ih:=d0p sep x (b::l) (by simp);simp [Lib.join,List.intercalate] at ih⊢;exact ih
theorem c41 {ws:List ByteArray} {sep x:ByteArray} {i:Nat} (h:ws[i]? =some x) (h0:0 < i):b5m (ws.take (i+1)) sep=b5m (ws.take i) sep++sep++x:=by
  have hl:=(qlc.1 h).1;rw [ql2,h];unfold b5m;apply ByteArray.ext;have hne:(ws.take i).map (fun w=>w.data.toList)≠[]:=by
    intro e;have:=congrArg List.length e;rw [qmj,qlr,List.length_nil] at this;omega
  have:=d0p sep.data.toList x.data.toList _ hne;simp only [aQ,fQ,Option.toList_some,List.map_append,List.map_cons,List.map_nil];rw [this];simp [ByteArray.data_append]
theorem c4z {ws:List ByteArray} {sep x:ByteArray} (h:ws[0]? =some x):b5m (ws.take 1) sep=x:=by
  rw [show (1:Nat)=0+1 from rfl,ql2,h];unfold b5m Lib.join;apply ByteArray.ext;simp [List.intercalate]
theorem b8e (sep:ByteArray):b5m [] sep=.empty:=by
  unfold b5m Lib.join;apply ByteArray.ext;simp [List.intercalate]
theorem d00 (a b c d s:ByteArray):b5m [a,b,c,d] s=a++s++b++s++c++s++d:=by
  unfold b5m Lib.join;apply ByteArray.ext;simp [List.intercalate,ByteArray.data_append]
theorem f8s (n k p c t s e:ByteArray):n++s++b5m [k,p,c,t] s++e=n++s++k++s++p++s++c++s++t++e:=by
  rw [d00];simp only [ByteArray.append_assoc]
structure CtlTxt (fl:List TA) (ins:List TI) (ws:List TW):Prop where
  fls:fl.length≤12
  ap:∀a∈fl,a.1.size≤6∧(0≤a.2.1∧a.2.1 < 100)∧(0≤a.2.2.1∧a.2.2.1 < 100)∧(0≤a.2.2.2.1∧a.2.2.2.1 < 100)∧(0≤a.2.2.2.2∧a.2.2.2.2 < 100)
  i8:ins.length≤8
  inc:∀x∈ins,(0≤x.1∧x.1 < 1000)∧(0≤x.2.1∧x.2.1 < 100)∧x.2.2.2.length≤12∧∀s∈x.2.2.2,s.size≤6
  w8:ws.length≤8
  want:∀w∈ws,(0≤w.1∧w.1 < 1000)∧w.2.length=4∧∀x∈w.2,0≤x∧x < 100
theorem d24 {s:ByteArray} (h:b4t s=true):s.size≤6:=by
  simp only [b4t,Bool.and_eq_true,decide_eq_true_eq] at h;omega
theorem f00 {n:Int} {ss:List TS} {fl:List TA} {ins:List TI} {ws:List TW} (h:b2o n ss fl ins ws=true):CtlTxt fl ins ws:=by
  have hc:=b4f h;have hw:=c84 hc;have hf:b4x fl=true:=by
    simp only [b2o,c9f,dsB,Bool.and_eq_true] at h;exact h.1.1.1.1.1.1.2
  have hi:=hc.ins8;rw [b8d,qld,decide_eq_true_eq] at hi;have hinc:∀x∈ins,(0≤x.1∧x.1 < 1000)∧(0≤x.2.1∧x.2.1 < 100)∧x.2.2.2.length≤12∧∀s∈x.2.2.2,s.size≤6:=by
    intro x hx;obtain ⟨i,hil,rfl⟩:=List.getElem_of_mem hx;have hp:=qlf.1 hi.1 i (qmb.2 hil);rw [c2b,qla hil] at hp;simp only [c04,Bool.and_eq_true,decide_eq_true_eq,Bool.not_eq_true',decide_eq_false_iff_not] at hp;refine ⟨by omega,by omega,by omega,fun s hs=>d24 (d1y hp.1.1.2 s hs)⟩
  refine ⟨hc.ds.hfl,fun a ha=> ?_,by omega,hinc,hc.ws8,fun w hw2=> ?_⟩
  · have:=d1l hf a ha
    simp only [c0r,Bool.and_eq_true,decide_eq_true_eq] at this;exact ⟨d24 this.1.1.1.1,by omega,by omega,by omega,by omega⟩
  · obtain ⟨k,x,hk1,hk2,hk3⟩:=f4h (hc.want w hw2).1
    have:=(hinc x (qlb hk1)).1;have h4:=hw w hw2;refine ⟨by rw [←hk2.1];exact this,h4.1,fun x hx=> ?_⟩;have:=h4.2 x hx;omega
theorem d5o {n:Int} (h:0≤n∧n < 100):(b5x n.toNat).size≤2:=b9e 2 _ (by omega) (by omega)
theorem f79 {n:Int} (h:0≤n∧n < 1000):(b5x n.toNat).size≤3:=b9e 3 _ (by omega) (by omega)
theorem b83 (b:UInt8):(ByteArray.mk #[b]).size=1:=rfl
theorem c5f {x:TA} (h:x.1.size≤6∧(0≤x.2.1∧x.2.1 < 100)∧(0≤x.2.2.1∧x.2.2.1 < 100)∧(0≤x.2.2.2.1∧x.2.2.2.1 < 100)∧(0≤x.2.2.2.2∧x.2.2.2.2 < 100)):(d1t x).size≤19:=by
  have h1:=d5o h.2.1;have h2:=d5o h.2.2.1;have h3:=d5o h.2.2.2.1;have h4:=d5o h.2.2.2.2;simp only [d1t,ByteArray.size_append,b83];omega
theorem c42 {l:List ByteArray} {c:ByteArray} (hc:c.size=1) (h1:l.length≤12) (h2:∀s∈l,s.size≤6):(b5m l c).size≤84:=by
  have:=c48 l c 6 h2;rw [hc] at this;omega
theorem c45 {x:TI} (h0:0≤x.1∧x.1 < 1000) (h1:0≤x.2.1∧x.2.1 < 100):(b8s x).size≤6:=by
  have:=f79 h0;have:=d5o h1;simp only [b8s,ByteArray.size_append,b83];omega
theorem c1o {x:TI} (h:(0≤x.1∧x.1 < 1000)∧(0≤x.2.1∧x.2.1 < 100)∧x.2.2.2.length≤12∧∀s∈x.2.2.2,s.size≤6):(b9a x).size≤100:=by
  have h1:=c45 h.1 h.2.1;have h2:=c42 (c:=(⟨#[44]⟩:ByteArray)) rfl h.2.2.1 h.2.2.2;simp only [b9a,ByteArray.size_append,b83];split<;>(try simp only [ByteArray.size_append,b83])<;>omega
theorem c8p {ins:List TI} (h8:ins.length≤8) (h:∀x∈ins,(0≤x.1∧x.1 < 1000)∧(0≤x.2.1∧x.2.1 < 100)∧x.2.2.2.length≤12∧∀s∈x.2.2.2,s.size≤6):(b5m (ins.map b9a) (⟨#[32]⟩:ByteArray)).size≤900:=by
  have:=c48 (ins.map b9a) (⟨#[32]⟩:ByteArray) 100 (by
    intro w hw;obtain ⟨x,hx,rfl⟩:=qmo.1 hw;exact c1o (h x hx))
  rw [qmj,show (⟨#[32]⟩:ByteArray).size=1 from rfl] at this;omega
theorem d3k {l:List Int} (h4:l.length=4) (h:∀x∈l,0≤x∧x < 100):(d2t (c8e l)).size≤36:=by
  have:=c48 (c8e l) .empty 9 (d3g fun n hn=>by have:=h n hn;omega);rw [d4z] at this;have e:(c8e l).length=l.length:=by simp [c8e]
  have e2:ByteArray.empty.size=0:=rfl;rw [e,e2] at this;omega
theorem c8q {fl:List TA} (h12:fl.length≤12) (h:∀a∈fl,a.1.size≤6∧(0≤a.2.1∧a.2.1 < 100)∧(0≤a.2.2.1∧a.2.2.1 < 100)∧(0≤a.2.2.2.1∧a.2.2.2.1 < 100)∧(0≤a.2.2.2.2∧a.2.2.2.2 < 100)):(b6s fl).size≤228:=by
  have key:∀(l:List TA) (s:ByteArray),(∀a∈l,(d1t a).size≤19)→(l.foldl (fun s x=>s++d1t x) s).size≤s.size+19 * l.length:=by
    intro l
    induction l with
    | nil=>intro s _;exact qlw _
    | cons x l ih=>
      intro s hl;have h1:=ih (s++d1t x) (fun a ha=>hl a (qll _ ha));have h2:=hl x (qlh ..);rw [qln] at h1;rw [List.foldl_cons,qme];omega
  have:=key fl .empty (fun a ha=>c5f (h a ha));have e:ByteArray.empty.size=0:=rfl;rw [e] at this;rw [b6s];omega
theorem f3k {l:List Int} {i:Nat} {x:Int} (h:l[i]? =some x):d2t (c8e (l.take (i+1)))=d2t (c8e (l.take i))++b5x x.toNat:=by
  rw [ql2,h,c8e,List.map_append,d2t,List.foldl_append];rfl
theorem d99 (fl:List TA) (hl:fl.length≤12) (hap:∀a∈fl,a.1.size≤6∧(0≤a.2.1∧a.2.1 < 100)∧(0≤a.2.2.1∧a.2.2.1 < 100)∧(0≤a.2.2.2.1∧a.2.2.2.1 < 100)∧(0≤a.2.2.2.2∧a.2.2.2.2 < 100)):Con Tryz.prog 75 [sQ rQa fl] [] (.str (b6s fl)) []:=by
 refine zcn [.tmp 2] [] Tryz.func75 Tryz.ntmps75 ⟨?_⟩;intro Q0 n0 r0;have T:=tq4 Ty.t3 Ty.t9 Ty.t27 Ty.t53;have F:=Fc.mk True.intro;refine yR [0] ⟨?_⟩;refine yR [0,3] ⟨?_⟩;refine b0e ?_;intros;refine yR [3,6,7,8] ⟨?_⟩;refine b0i ?_;intros;refine b08 (fun p=>⟨[(3,.str p.2),(6,sQ rQa fl),(7,.int .i64 fl.length),(8,.int .i64 (Nat.cast p.1))],[],false,39,0⟩) (fun p=>p.1≤fl.length∧p.2.size≤19 * p.1∧p.2=b6s (fl.take p.1)) (fun p=>fl.length - p.1) ((0,.empty):Nat×ByteArray) ?_ ?_ ?_
 ·refine b2a [3,6,7,8] ?_;simp only [b02,b0n,b0l,b0j,b0u,Nat.reduceEqDiff,reduceIte];rfl
 ·exact ⟨qle _,qlw _,rfl⟩
 ·rintro ⟨i,st⟩ hok6 Q6 n6 e6 r6;obtain ⟨hi1,hsz,hR⟩:=hok6;simp only [] at hi1 hsz hR⊢;refine yR [3,6,7,8,9] ⟨?_⟩;refine b0e ?_;intros;refine b0a _ rfl ?_ ?_
  ·intro hc0;have hlt:i < fl.length:=by omega
   obtain ⟨⟨x0,x1,x2,x3,x4⟩,hx⟩:∃x:TA,fl[i]? =some x:=⟨fl[i]'(by omega),qla (by omega)⟩;have hax:=hap _ (qlb hx);have has:=c5f hax;simp only [] at hax;have hst:=c7w hx;obtain ⟨hn0,hn1,hn2,hn3,hn4⟩:=hax;have hs1:=d5o hn1;have hs2:=d5o hn2;have hs3:=d5o hn3;have hs4:=d5o hn4;have hz0:(⟨#[47]⟩:ByteArray).size=1:=rfl;have hz1:(⟨#[59]⟩:ByteArray).size=1:=rfl;have hz2:(⟨#[64]⟩:ByteArray).size=1:=rfl;have hz3:(⟨#[33]⟩:ByteArray).size=1:=rfl;have hz4:(⟨#[58]⟩:ByteArray).size=1:=rfl;have hz5:(⟨#[44]⟩:ByteArray).size=1:=rfl;have hz6:(⟨#[42]⟩:ByteArray).size=1:=rfl;have hz7:(⟨#[124]⟩:ByteArray).size=1:=rfl;have hz8:(⟨#[32]⟩:ByteArray).size=1:=rfl;refine zn [3,6,7,8] ⟨?_⟩;refine b0e ?_;intro Q10 n10 e10 r10;refine b0i ?_;intro Q11 n11 x11 e11 r11;have F:=f99 (gdm hx) @qln hz0 hz1 hz2 hz3 hz4 hz5 hz6 hz7 hz8;refine yR [3,5,6,7,8] ⟨?_⟩;refine b1f (by kernel_rfl) ?_;intro K13 q13 k13;show b1r _ _ _ _ 26 (Array.replicate 26 false) _;refine b0t q13 true 0 12 ?_;refine b0h q13 true 1 13 ?_;refine b1d q13 true 2 14 ?_;refine b21 q13 true 3 15 ?_;refine b0h q13 true 4 16 ?_;refine b1d q13 true 5 17 ?_;refine b0h q13 true 9 21 ?_;refine b1d q13 true 10 22 ?_;refine b0h q13 true 14 26 ?_;refine b1d q13 true 15 27 ?_;refine b0h q13 true 19 31 ?_;refine b1d q13 true 20 32 ?_;refine zoc 6 (b7i x1 (by omega)) ⟨?_⟩;refine b21 q13 true 7 19 ?_;refine b21 q13 true 8 20 ?_;refine zoc 11 (b7i x2 (by omega)) ⟨?_⟩;refine b21 q13 true 12 24 ?_;refine b21 q13 true 13 25 ?_;refine zoc 16 (b7i x3 (by omega)) ⟨?_⟩;refine b21 q13 true 17 29 ?_;refine b21 q13 true 18 30 ?_;refine zoc 21 (b7i x4 (by omega)) ⟨?_⟩;refine b21 q13 true 22 34 ?_;refine b21 q13 true 23 35 ?_;refine b21 q13 true 24 36 ?_;refine b0p 25 ⟨?_⟩;refine b0b (by kernel_rfl) ?_;refine k13 _ ?_;refine n11 _ ?_;refine n10 _ _ (b0f [3,6,7,8] _) ?_;refine zk ⟨?_⟩;refine yV ⟨?_⟩;refine n6 _ (i+1,st++(x0++(⟨#[47]⟩:ByteArray)++b5x x1.toNat++(⟨#[47]⟩:ByteArray)++b5x x2.toNat++(⟨#[47]⟩:ByteArray)++b5x x3.toNat++(⟨#[47]⟩:ByteArray)++b5x x4.toNat++(⟨#[59]⟩:ByteArray))) ?_ ?_ ?_
   ·refine b0d [3,6,7,8] [] ⟨?_⟩;rfl
   ·have hxe:d1t (x0,x1,x2,x3,x4)=(x0++(⟨#[47]⟩:ByteArray)++b5x x1.toNat++(⟨#[47]⟩:ByteArray)++b5x x2.toNat++(⟨#[47]⟩:ByteArray)++b5x x3.toNat++(⟨#[47]⟩:ByteArray)++b5x x4.toNat++(⟨#[59]⟩:ByteArray)):=rfl;exact ⟨hlt,by show ByteArray.size (st++_)≤19 * (i+1);rw [qln,←hxe];omega,by show st++_=_;rw [hst,←hR,hxe]⟩
   ·show _ < _;show fl.length - (i+1) < fl.length - i;omega
  ·intro hc0;refine zn [3] ⟨?_⟩;refine yR [2] ⟨?_⟩;refine zr ⟨?_⟩;have hend:st=b6s fl:=by rw [hR,qlx (by omega)]
   exact b0g rfl (by rw [hend]) (.inl rfl)
theorem d1b (fl:List TA) (hl:fl.length≤12) (hap:∀a∈fl,a.1.size≤6∧(0≤a.2.1∧a.2.1 < 100)∧(0≤a.2.2.1∧a.2.2.1 < 100)∧(0≤a.2.2.2.1∧a.2.2.2.1 < 100)∧(0≤a.2.2.2.2∧a.2.2.2.2 < 100)):Con Tryz.prog 71 [sQ rQa fl] [] (.str (b6s fl)) []:=by
 refine zcn [.tmp 2] [] Tryz.func71 Tryz.ntmps71 ⟨?_⟩;intro Q0 n0 r0;have T:=tq5 Ty.t3 Ty.t9 Ty.t27 Ty.t35 Ty.t53;have F:=Fc.mk True.intro;refine yR [0] ⟨?_⟩;refine yR [0,3] ⟨?_⟩;refine b0e ?_;intros;refine yR [3,6,7,8] ⟨?_⟩;refine b0i ?_;intros;refine b08 (fun p=>⟨[(3,.str p.2),(6,sQ rQa fl),(7,.int .i64 fl.length),(8,.int .i64 (Nat.cast p.1))],[],false,31,0⟩) (fun p=>p.1≤fl.length∧p.2.size≤19 * p.1∧p.2=b6s (fl.take p.1)) (fun p=>fl.length - p.1) ((0,.empty):Nat×ByteArray) ?_ ?_ ?_
 ·refine b2a [3,6,7,8] ?_;simp only [b02,b0n,b0l,b0j,b0u,Nat.reduceEqDiff,reduceIte];rfl
 ·exact ⟨qle _,qlw _,rfl⟩
 ·rintro ⟨i,st⟩ hok6 Q6 n6 e6 r6;obtain ⟨hi1,hsz,hR⟩:=hok6;simp only [] at hi1 hsz hR⊢;refine yR [3,6,7,8,9] ⟨?_⟩;refine b0e ?_;intros;refine b0a _ rfl ?_ ?_
  ·intro hc0;have hlt:i < fl.length:=by omega
   obtain ⟨⟨x0,x1,x2,x3,x4⟩,hx⟩:∃x:TA,fl[i]? =some x:=⟨fl[i]'(by omega),qla (by omega)⟩;have hax:=hap _ (qlb hx);have has:=c5f hax;simp only [] at hax;have hst:=c7w hx;obtain ⟨hn0,hn1,hn2,hn3,hn4⟩:=hax;have hs1:=d5o hn1;have hs2:=d5o hn2;have hs3:=d5o hn3;have hs4:=d5o hn4;have hz0:(⟨#[47]⟩:ByteArray).size=1:=rfl;have hz1:(⟨#[59]⟩:ByteArray).size=1:=rfl;have hz2:(⟨#[64]⟩:ByteArray).size=1:=rfl;have hz3:(⟨#[33]⟩:ByteArray).size=1:=rfl;have hz4:(⟨#[58]⟩:ByteArray).size=1:=rfl;have hz5:(⟨#[44]⟩:ByteArray).size=1:=rfl;have hz6:(⟨#[42]⟩:ByteArray).size=1:=rfl;have hz7:(⟨#[124]⟩:ByteArray).size=1:=rfl;have hz8:(⟨#[32]⟩:ByteArray).size=1:=rfl;have hjs:(b5m [b5x x1.toNat,b5x x2.toNat,b5x x3.toNat,b5x x4.toNat] (⟨#[47]⟩:ByteArray)).size≤19:=by
    rw [d00];simp only [ByteArray.size_append,hz0];omega
   refine zn [3,6,7,8] ⟨?_⟩;refine b0e ?_;intro Q10 n10 e10 r10;refine b0i ?_;intro Q11 n11 x11 e11 r11;have F:=f99 (gdm hx) @qln hz0 hz1 hz2 hz3 hz4 hz5 hz6 hz7 hz8;refine yR [3,5,6,7,8] ⟨?_⟩;refine b1f (by kernel_rfl) ?_;intro K13 q13 k13;show b1r _ _ _ _ 18 (Array.replicate 18 false) _;refine b0t q13 true 0 12 ?_;refine b0h q13 true 1 13 ?_;refine b1d q13 true 2 14 ?_;refine b21 q13 true 3 15 ?_;refine b0h q13 true 4 16 ?_;refine b1d q13 true 5 17 ?_;refine b0h q13 true 6 18 ?_;refine b1d q13 true 7 19 ?_;refine b0h q13 true 8 20 ?_;refine b1d q13 true 9 21 ?_;refine b0h q13 true 10 22 ?_;refine b1d q13 true 11 23 ?_;refine b1j 12 ⟨?_⟩;refine zoc 13 ((by have q:=b8r [x1,x2,x3,x4] (⟨#[47]⟩:ByteArray) (by simp) (by simp;omega) (by decide);rw [show c8e [x1,x2,x3,x4]=[b5x x1.toNat,b5x x2.toNat,b5x x3.toNat,b5x x4.toNat] from rfl] at q;exact q)) ⟨?_⟩;refine b21 q13 true 14 26 ?_;refine b21 q13 true 15 27 ?_;refine b21 q13 true 16 28 ?_;refine b0p 17 ⟨?_⟩;refine b0b (by kernel_rfl) ?_;refine k13 _ ?_;refine n11 _ ?_;refine n10 _ _ (b0f [3,6,7,8] _) ?_;refine zk ⟨?_⟩;refine yV ⟨?_⟩;refine n6 _ (i+1,st++(x0++(⟨#[47]⟩:ByteArray)++b5m [b5x x1.toNat,b5x x2.toNat,b5x x3.toNat,b5x x4.toNat] (⟨#[47]⟩:ByteArray)++(⟨#[59]⟩:ByteArray))) ?_ ?_ ?_
   ·refine b0d [3,6,7,8] [] ⟨?_⟩;rfl
   ·have hxe:d1t (x0,x1,x2,x3,x4)=(x0++(⟨#[47]⟩:ByteArray)++b5m [b5x x1.toNat,b5x x2.toNat,b5x x3.toNat,b5x x4.toNat] (⟨#[47]⟩:ByteArray)++(⟨#[59]⟩:ByteArray)):=(f8s _ _ _ _ _ _ _).symm;exact ⟨hlt,by show ByteArray.size (st++_)≤19 * (i+1);rw [qln,←hxe];omega,by show st++_=_;rw [hst,←hR,hxe]⟩
   ·show _ < _;show fl.length - (i+1) < fl.length - i;omega
  ·intro hc0;refine zn [3] ⟨?_⟩;refine yR [2] ⟨?_⟩;refine zr ⟨?_⟩;have hend:st=b6s fl:=by rw [hR,qlx (by omega)]
   exact b0g rfl (by rw [hend]) (.inl rfl)
theorem d0r (x0:Int) (x1:Int) (x2:Bool) (x3:List ByteArray) (hn:(0≤x0∧x0 < 1000)∧(0≤x1∧x1 < 100)∧x3.length≤12∧∀s∈x3,s.size≤6):Con Tryz.prog 76 [.agg [V.int .i64 x0,V.int .i64 x1,V.bool x2,V.sl (x3.map V.str)]] [] (.str (b9a (x0,x1,x2,x3))) []:=by
 obtain ⟨hn0,hn1,hn2,hn3⟩:=hn;have hs0:=f79 hn0;have hs1:=d5o hn1;have hjz:=c42 (c:=(⟨#[44]⟩:ByteArray)) rfl hn2 hn3;have hz0:(⟨#[47]⟩:ByteArray).size=1:=rfl;have hz1:(⟨#[59]⟩:ByteArray).size=1:=rfl;have hz2:(⟨#[64]⟩:ByteArray).size=1:=rfl;have hz3:(⟨#[33]⟩:ByteArray).size=1:=rfl;have hz4:(⟨#[58]⟩:ByteArray).size=1:=rfl;have hz5:(⟨#[44]⟩:ByteArray).size=1:=rfl;have hz6:(⟨#[42]⟩:ByteArray).size=1:=rfl;have hz7:(⟨#[124]⟩:ByteArray).size=1:=rfl;have hz8:(⟨#[32]⟩:ByteArray).size=1:=rfl;have hbz:ByteArray.size ((if x2=true then b8s (x0,x1,x2,x3)++(⟨#[33]⟩:ByteArray) else b8s (x0,x1,x2,x3))++(⟨#[58]⟩:ByteArray))≤8:=by
  have:=c45 (x:=(x0,x1,x2,x3)) hn0 hn1;split<;>simp only [ByteArray.size_append,hz4,hz3]<;>omega
 refine zcn [.tmp 2] [] Tryz.func76 Tryz.ntmps76 ⟨?_⟩;intro Q0 n0 r0;have T:=tq5 Ty.t3 Ty.t4 Ty.t9 Ty.t32 Ty.t55;have F:=Fc.mk True.intro;refine yR [1] ⟨?_⟩;refine b0e ?_;intro Q2 n2 e2 r2;refine b1f (by kernel_rfl) ?_;intro K3 q3 k3;show b1r _ _ _ _ 9 (Array.replicate 9 false) _;refine b0h q3 true 0 6 ?_;refine b1d q3 true 1 7 ?_;refine b0h q3 true 4 10 ?_;refine b1d q3 true 5 11 ?_;refine zoc 2 (b7i x0 (by omega)) ⟨?_⟩;refine b21 q3 true 3 9 ?_;refine zoc 6 (b7i x1 (by omega)) ⟨?_⟩;refine b21 q3 true 7 13 ?_;refine b0p 8 ⟨?_⟩;refine b0b (by kernel_rfl) ?_;refine k3 _ ?_;refine n2 _ _ (b0f [1,3] _) ?_;refine zk ⟨?_⟩;refine b0e ?_;intros;refine yR [1,3,15] ⟨?_⟩;refine b0a _ rfl ?_ ?_
 ·intro hc0;refine yQ [1,3] ⟨?_⟩;refine yR [1,3] ⟨?_⟩;refine b0e ?_;intros;refine yR [3,21,22,23] ⟨?_⟩;refine b0i ?_;intros;refine b08 (fun p=>⟨[(3,.str p.2),(21,.sl (x3.map V.str)),(22,.int .i64 x3.length),(23,.int .i64 (Nat.cast p.1))],[],false,37,0⟩) (fun p=>p.1≤x3.length∧p.2.size≤8+7 * p.1∧p.2=(if x2=true then b8s (x0,x1,x2,x3)++(⟨#[33]⟩:ByteArray) else b8s (x0,x1,x2,x3))++(⟨#[58]⟩:ByteArray)++b5m (x3.take p.1) (⟨#[44]⟩:ByteArray)) (fun p=>x3.length - p.1) ((0,(if x2=true then b8s (x0,x1,x2,x3)++(⟨#[33]⟩:ByteArray) else b8s (x0,x1,x2,x3))++(⟨#[58]⟩:ByteArray)):Nat×ByteArray) ?_ ?_ ?_
  ·refine b0d [3,21,22,23] [] ⟨?_⟩;rw [if_pos hc0];rfl
  ·exact ⟨qle _,by show ByteArray.size ((if x2=true then b8s (x0,x1,x2,x3)++(⟨#[33]⟩:ByteArray) else b8s (x0,x1,x2,x3))++(⟨#[58]⟩:ByteArray))≤_;exact hbz,by show (if x2=true then b8s (x0,x1,x2,x3)++(⟨#[33]⟩:ByteArray) else b8s (x0,x1,x2,x3))++(⟨#[58]⟩:ByteArray)=_;rw [qml,b8e,ByteArray.append_empty]⟩
  ·rintro ⟨i,st⟩ hok12 Q12 n12 e12 r12;obtain ⟨hi1,hsz,hR⟩:=hok12;simp only [] at hi1 hsz hR⊢;refine yR [3,21,22,23,24] ⟨?_⟩;refine b0e ?_;intros;refine b0a _ rfl ?_ ?_
   ·intro hc1;have hlt:i < x3.length:=by omega
    obtain ⟨s,hx⟩:∃s,x3[i]? =some s:=⟨_,qla hlt⟩;have hsx:=hn3 s (qlb hx);refine zn [3,21,22,23] ⟨?_⟩;refine b0e ?_;intros;refine b0i ?_;intros;have F:=Fc.mk (gdm hx);refine yR [3,4,5,21,22,23] ⟨?_⟩;refine b0e ?_;intros;refine yR [3,5,21,22,23,29] ⟨?_⟩;refine b0a _ rfl ?_ ?_
    ·intro hc2;refine yQ [3,5,21,22,23] ⟨?_⟩;refine yQ [3,21,22,23] ⟨?_⟩;refine yV ⟨?_⟩;refine n12 _ (i+1,st++(⟨#[44]⟩:ByteArray)++s) ?_ ?_ ?_
     ·refine b0d [3,21,22,23] [] ⟨?_⟩;rfl
     ·exact ⟨hlt,by show ByteArray.size (st++(⟨#[44]⟩:ByteArray)++s)≤8+7 * (i+1);simp only [ByteArray.size_append,hz5];omega,by show st++(⟨#[44]⟩:ByteArray)++s=_;rw [hR,c41 hx (by omega)];simp only [ByteArray.append_assoc]⟩
     ·show _ < _;show x3.length - (i+1) < x3.length - i;omega
    ·intro hc2;refine zn [3,5,21,22,23] ⟨?_⟩;refine yQ [3,21,22,23] ⟨?_⟩;refine yV ⟨?_⟩;refine n12 _ (i+1,st++s) ?_ ?_ ?_
     ·refine b0d [3,21,22,23] [] ⟨?_⟩;rfl
     ·have h00:i=0:=by omega
      subst h00;exact ⟨hlt,by show ByteArray.size (st++s)≤8+7 * 1;simp only [ByteArray.size_append];omega,by show st++s=_;rw [hR,c4z hx,qml,b8e,ByteArray.append_empty]⟩
     ·show _ < _;show x3.length - (i+1) < x3.length - i;omega
   ·intro hc1;refine zn [3] ⟨?_⟩;refine yR [2] ⟨?_⟩;refine zr ⟨?_⟩;have hend:st=b9a (x0,x1,x2,x3):=by rw [hR,qlx (by omega)];rfl
    exact b0g rfl (by rw [hend]) (.inl rfl)
 ·intro hc0;refine zn [1,3] ⟨?_⟩;refine yR [1,3] ⟨?_⟩;refine b0e ?_;intros;refine yR [3,21,22,23] ⟨?_⟩;refine b0i ?_;intros;refine b08 (fun p=>⟨[(3,.str p.2),(21,.sl (x3.map V.str)),(22,.int .i64 x3.length),(23,.int .i64 (Nat.cast p.1))],[],false,37,0⟩) (fun p=>p.1≤x3.length∧p.2.size≤8+7 * p.1∧p.2=(if x2=true then b8s (x0,x1,x2,x3)++(⟨#[33]⟩:ByteArray) else b8s (x0,x1,x2,x3))++(⟨#[58]⟩:ByteArray)++b5m (x3.take p.1) (⟨#[44]⟩:ByteArray)) (fun p=>x3.length - p.1) ((0,(if x2=true then b8s (x0,x1,x2,x3)++(⟨#[33]⟩:ByteArray) else b8s (x0,x1,x2,x3))++(⟨#[58]⟩:ByteArray)):Nat×ByteArray) ?_ ?_ ?_
  ·refine b0d [3,21,22,23] [] ⟨?_⟩;rw [if_neg (by simp [hc0])];rfl
  ·exact ⟨qle _,by show ByteArray.size ((if x2=true then b8s (x0,x1,x2,x3)++(⟨#[33]⟩:ByteArray) else b8s (x0,x1,x2,x3))++(⟨#[58]⟩:ByteArray))≤_;exact hbz,by show (if x2=true then b8s (x0,x1,x2,x3)++(⟨#[33]⟩:ByteArray) else b8s (x0,x1,x2,x3))++(⟨#[58]⟩:ByteArray)=_;rw [qml,b8e,ByteArray.append_empty]⟩
  ·rintro ⟨i,st⟩ hok32 Q32 n32 e32 r32;obtain ⟨hi1,hsz,hR⟩:=hok32;simp only [] at hi1 hsz hR⊢;refine yR [3,21,22,23,24] ⟨?_⟩;refine b0e ?_;intros;refine b0a _ rfl ?_ ?_
   ·intro hc3;have hlt:i < x3.length:=by omega
    obtain ⟨s,hx⟩:∃s,x3[i]? =some s:=⟨_,qla hlt⟩;have hsx:=hn3 s (qlb hx);refine zn [3,21,22,23] ⟨?_⟩;refine b0e ?_;intros;refine b0i ?_;intros;have F:=Fc.mk (gdm hx);refine yR [3,4,5,21,22,23] ⟨?_⟩;refine b0e ?_;intros;refine yR [3,5,21,22,23,29] ⟨?_⟩;refine b0a _ rfl ?_ ?_
    ·intro hc4;refine yQ [3,5,21,22,23] ⟨?_⟩;refine yQ [3,21,22,23] ⟨?_⟩;refine yV ⟨?_⟩;refine n32 _ (i+1,st++(⟨#[44]⟩:ByteArray)++s) ?_ ?_ ?_
     ·refine b0d [3,21,22,23] [] ⟨?_⟩;rfl
     ·exact ⟨hlt,by show ByteArray.size (st++(⟨#[44]⟩:ByteArray)++s)≤8+7 * (i+1);simp only [ByteArray.size_append,hz5];omega,by show st++(⟨#[44]⟩:ByteArray)++s=_;rw [hR,c41 hx (by omega)];simp only [ByteArray.append_assoc]⟩
     ·show _ < _;show x3.length - (i+1) < x3.length - i;omega
    ·intro hc4;refine zn [3,5,21,22,23] ⟨?_⟩;refine yQ [3,21,22,23] ⟨?_⟩;refine yV ⟨?_⟩;refine n32 _ (i+1,st++s) ?_ ?_ ?_
     ·refine b0d [3,21,22,23] [] ⟨?_⟩;rfl
     ·have h00:i=0:=by omega
      subst h00;exact ⟨hlt,by show ByteArray.size (st++s)≤8+7 * 1;simp only [ByteArray.size_append];omega,by show st++s=_;rw [hR,c4z hx,qml,b8e,ByteArray.append_empty]⟩
     ·show _ < _;show x3.length - (i+1) < x3.length - i;omega
   ·intro hc3;refine zn [3] ⟨?_⟩;refine yR [2] ⟨?_⟩;refine zr ⟨?_⟩;have hend:st=b9a (x0,x1,x2,x3):=by rw [hR,qlx (by omega)];rfl
    exact b0g rfl (by rw [hend]) (.inl rfl)
theorem c6j (x0:Int) (x1:Int) (x2:Bool) (x3:List ByteArray) (hn:(0≤x0∧x0 < 1000)∧(0≤x1∧x1 < 100)∧x3.length≤12∧∀s∈x3,s.size≤6):Con Tryz.prog 70 [.agg [V.int .i64 x0,V.int .i64 x1,V.bool x2,V.sl (x3.map V.str)]] [] (.str (b9a (x0,x1,x2,x3))) []:=by
 obtain ⟨hn0,hn1,hn2,hn3⟩:=hn;have hs0:=f79 hn0;have hs1:=d5o hn1;have hjz:=c42 (c:=(⟨#[44]⟩:ByteArray)) rfl hn2 hn3;have hz0:(⟨#[47]⟩:ByteArray).size=1:=rfl;have hz1:(⟨#[59]⟩:ByteArray).size=1:=rfl;have hz2:(⟨#[64]⟩:ByteArray).size=1:=rfl;have hz3:(⟨#[33]⟩:ByteArray).size=1:=rfl;have hz4:(⟨#[58]⟩:ByteArray).size=1:=rfl;have hz5:(⟨#[44]⟩:ByteArray).size=1:=rfl;have hz6:(⟨#[42]⟩:ByteArray).size=1:=rfl;have hz7:(⟨#[124]⟩:ByteArray).size=1:=rfl;have hz8:(⟨#[32]⟩:ByteArray).size=1:=rfl;have hhz:=c45 (x:=(x0,x1,x2,x3)) hn0 hn1;refine zcn [.tmp 2] [] Tryz.func70 Tryz.ntmps70 ⟨?_⟩;intro Q0 n0 r0;have T:=tq6 Ty.t3 Ty.t4 Ty.t9 Ty.t32 Ty.t35 Ty.t55;have F:=Fc.mk True.intro;refine yR [1] ⟨?_⟩;refine yRc [1,3] ((by have q:=b8r [x0,x1] (⟨#[64]⟩:ByteArray) (by simp) (by simp;omega) (by decide);rw [show c8e [x0,x1]=[b5x x0.toNat,b5x x1.toNat] from rfl,f1e] at q;exact q:Con _ _ _ _ (.str (b8s (x0,x1,x2,x3))) _)) ⟨?_⟩;refine b0e ?_;intros;refine yR [1,3,11] ⟨?_⟩;refine b0a _ rfl ?_ ?_
 ·intro hc0;refine yQ [1,3] ⟨?_⟩;refine yRc [2] (c6t x3 (⟨#[44]⟩:ByteArray) (by omega) (fun s h=>by have:=hn3 s h;omega) (by decide)) ⟨?_⟩;refine zr ⟨?_⟩;exact b0g rfl (by rw [b9a,if_pos hc0]<;>first | rfl | simp only [ByteArray.append_assoc]) (.inl rfl)
 ·intro hc0;refine zn [1,3] ⟨?_⟩;refine yRc [2] (c6t x3 (⟨#[44]⟩:ByteArray) (by omega) (fun s h=>by have:=hn3 s h;omega) (by decide)) ⟨?_⟩;refine zr ⟨?_⟩;exact b0g rfl (by rw [b9a,if_neg (by simp [hc0])]<;>first | rfl | simp only [ByteArray.append_assoc]) (.inl rfl)
set_option maxRecDepth 100000 in
theorem d07 (n:Int) (ss:List TS) (fl:List TA) (ins:List TI) (ws:List TW) (hs:ss.length≤1048576) (hl:fl.length≤1048576) (hls:∀t∈fl,t.1.size≤9223372036854775807) (hil:ins.length≤1048576) (hin:∀x∈ins,x.2.2.2.length≤1048576) (his:∀x∈ins,∀s∈x.2.2.2,s.size≤9223372036854775807) (hwl:ws.length≤1048576) (hwn:∀x∈ws,x.2.length≤1048576):Con Tryz.prog 25 [tQ n ss,kQ fl ins ws] [] (.tup [.str (c99 (b2o n ss fl ins ws) fl ins ws),.bool (b2o n ss fl ins ws)]) []:=by
 refine zcn [.tmp 4,.tmp 5] [] Tryz.func25 Tryz.ntmps25 ⟨?_⟩;intro Q0 n0 r0;have T:=Tys.mk (ai Ty.t3 (ai Ty.t4 (ai Ty.t9 (ai Ty.t24 (ai Ty.t26 (ai Ty.t27 (ai Ty.t28 (ai Ty.t29 (ai Ty.t31 (ai Ty.t32 (ai Ty.t35 (ai Ty.t53 (ai Ty.t55 (ai Ty.t77 (ai Ty.t79 (ai Ty.t91 Ty.t127))))))))))))))));have F:=Fc.mk True.intro;refine yR [2,3] ⟨?_⟩;refine b0e ?_;intros;refine d2w [3,17] (b4z n ss hs) (b4s n ss fl ins ws hs hl hls hil hin his hwl hwn) ⟨?_⟩;refine b0a _ rfl ?_ ?_
 ·intro hc0;have hB:(b2o n ss fl ins ws)=false:=by
   cases hq:(b2o n ss fl ins ws) with
   |false=>rfl
   |true=>(have ht:=b6f hq;simp [hq,ht] at hc0)
  refine yR [4,5] ⟨?_⟩;refine zr ⟨?_⟩;exact b0g rfl (by rw [c99,hB];rfl) (.inl rfl)
 ·intro hc0;have hB:(b2o n ss fl ins ws)=true:=by
   cases hq:(b2o n ss fl ins ws) with
   |true=>rfl
   |false=>simp [hq] at hc0
  have hc:=b4f hB;have ht:=f00 hB;have h8:=ht.i8;have hw8:=ht.w8;have hf12:=ht.fls;have hiz:=c8p h8 ht.inc;have haz:(b6s fl).size≤228:=c8q hf12 ht.ap;have hcz:(c39 fl ins).size≤1130:=by
   simp only [c39,ByteArray.size_append,b83];omega
  have hz0:(⟨#[47]⟩:ByteArray).size=1:=rfl;have hz1:(⟨#[59]⟩:ByteArray).size=1:=rfl;have hz2:(⟨#[64]⟩:ByteArray).size=1:=rfl;have hz3:(⟨#[33]⟩:ByteArray).size=1:=rfl;have hz4:(⟨#[58]⟩:ByteArray).size=1:=rfl;have hz5:(⟨#[44]⟩:ByteArray).size=1:=rfl;have hz6:(⟨#[42]⟩:ByteArray).size=1:=rfl;have hz7:(⟨#[124]⟩:ByteArray).size=1:=rfl;have hz8:(⟨#[32]⟩:ByteArray).size=1:=rfl;refine zn [3] ⟨?_⟩;refine yR [3,6] ⟨?_⟩;refine b0e ?_;intros;refine yR [3,6,19,20,21] ⟨?_⟩;refine b0i ?_;intros;refine b08 (fun i=>⟨[(3,.ptr 1 0 0),(6,.ref 0),(19,sQ rQb ins),(20,.int .i64 ins.length),(21,.int .i64 (Nat.cast i))],[.arr (((ins.take i).map b9a).map V.str) .flat,.box (kQ fl ins ws) .shal],false,59,0⟩) (fun i=>i≤ins.length) (fun i=>ins.length - i) 0 ?_ ?_ ?_
  ·refine b0d [3,6,19,20,21] [2,1] ⟨?_⟩;rfl
  ·exact qle _
  ·rintro i hok10 Q10 n10 e10 r10;have hi1:i≤ins.length:=hok10;refine yR [3,6,19,20,21,22] ⟨?_⟩;refine b0e ?_;intros;refine b0a _ rfl ?_ ?_
   ·intro hc1;have hlt:i < ins.length:=by omega
    obtain ⟨⟨x0,x1,x2,x3⟩,hx⟩:∃x:TI,ins[i]? =some x:=⟨ins[i]'(by omega),qla (by omega)⟩;have hix:=ht.inc _ (qlb hx);have htz:=c1o hix;simp only [] at hix;have hsn:((ins.take i).map b9a).map V.str++[V.str (b9a (x0,x1,x2,x3))]=((ins.take (i+1)).map b9a).map V.str:=by rw [ql2,hx];simp
    refine zn [3,6,19,20,21] ⟨?_⟩;refine b0e ?_;intros;refine b0i ?_;intros;have F:=Fc.mk (gdm hx);refine yR [3,6,8,19,20,21] ⟨?_⟩;refine yQc [3,6,19,20,21] (c6j x0 x1 x2 x3 hix) ⟨?_⟩;refine yV ⟨?_⟩;refine n10 _ (i+1) ?_ ?_ ?_
    ·refine b0d [3,6,19,20,21] [5,1] ⟨?_⟩;rw [←hsn];rfl
    ·exact hlt
    ·show _ < _;omega
   ·intro hc1;have hend:i=ins.length:=by omega
    subst hend;simp only [List.take_length];refine zn [3,6] ⟨?_⟩;have F:=f8h @qln hz0 hz1 hz2 hz3 hz4 hz5 hz6 hz7 hz8;refine f86 [3,9] (d1b fl ht.fls ht.ap) (c6t (ins.map b9a) (⟨#[32]⟩:ByteArray) (by rw [qmj];omega) (by intro w hw;obtain ⟨x,hx,rfl⟩:=qmo.1 hw;have:=c1o (ht.inc x hx);omega) (by decide)) ⟨?_⟩;refine b0e ?_;intros;refine yR [9,40,41,42] ⟨?_⟩;refine b0i ?_;intros;refine b08 (fun p=>⟨[(9,.str p.2),(40,sQ rQc ws),(41,.int .i64 ws.length),(42,.int .i64 (Nat.cast p.1))],[],false,59,0⟩) (fun p=>p.1≤ws.length∧p.2.size≤1130+41 * p.1∧p.2=d0o (c39 fl ins) (ws.take p.1)) (fun p=>ws.length - p.1) ((0,c39 fl ins):Nat×ByteArray) ?_ ?_ ?_
    ·refine b0d [9,40,41,42] [] ⟨?_⟩;rfl
    ·exact ⟨qle _,by show (c39 fl ins).size≤_;omega,rfl⟩
    ·rintro ⟨i,st⟩ hok23 Q23 n23 e23 r23;obtain ⟨hi1,hsz,hR⟩:=hok23;simp only [] at hi1 hsz hR⊢;refine yR [9,40,41,42,43] ⟨?_⟩;refine b0e ?_;intros;refine b0a _ rfl ?_ ?_
     ·intro hc2;have hlt:i < ws.length:=by omega
      obtain ⟨⟨x0,x1⟩,hx⟩:∃x:TW,ws[i]? =some x:=⟨ws[i]'(by omega),qla (by omega)⟩;have hwx:=ht.want _ (qlb hx);have hst:=c62 (s:=c39 fl ins) hx;simp only [] at hwx;obtain ⟨hw0,hw4,hwn2⟩:=hwx;have hs0:=f79 hw0;have hcs:=d3k hw4 hwn2;have hwz:(d2h (x0,x1)).size≤41:=by
       simp only [d2h,ByteArray.size_append,b83];omega
      refine zn [9,40,41,42] ⟨?_⟩;refine b0e ?_;intro Q27 n27 e27 r27;refine b0i ?_;intro Q28 n28 x28 e28 r28;have F:=Fc.mk (ai @qln (ai hz0 (ai hz1 (ai hz2 (ai hz3 (ai hz4 (ai hz5 (ai hz6 (ai hz7 (ai hz8 (ai (gdm hx) (ai @qln (ai hz0 (ai hz1 (ai hz2 (ai hz3 (ai hz4 (ai hz5 (ai hz6 (ai hz7 hz8))))))))))))))))))));refine yR [9,11,40,41,42] ⟨?_⟩;refine b1f (by kernel_rfl) ?_;intro K30 q30 k30;show b1r _ _ _ _ 12 (Array.replicate 12 false) _;refine b0t q30 true 0 46 ?_;refine b0h q30 true 1 47 ?_;refine b1d q30 true 2 48 ?_;refine b0h q30 true 5 51 ?_;refine b1d q30 true 6 52 ?_;refine zoc 3 (d67 x0 (by omega)) ⟨?_⟩;refine b21 q30 true 4 50 ?_;refine zoc 7 ((by have q:=b8r x1 .empty (by omega) (fun n h=>by have:=hwn2 n h;omega) (by decide);rw [d4z] at q;exact q)) ⟨?_⟩;refine b21 q30 true 8 54 ?_;refine b21 q30 true 9 55 ?_;refine b21 q30 true 10 56 ?_;refine b0p 11 ⟨?_⟩;refine b0b (by kernel_rfl) ?_;refine k30 _ ?_;refine n28 _ ?_;refine n27 _ _ (b0f [9,40,41,42] _) ?_;refine zk ⟨?_⟩;refine yV ⟨?_⟩;refine n23 _ (i+1,st++(b5x x0.toNat++(⟨#[42]⟩:ByteArray)++d2t (c8e x1)++(⟨#[59]⟩:ByteArray))) ?_ ?_ ?_
      ·refine b0d [9,40,41,42] [] ⟨?_⟩;rfl
      ·have hxe:st++(b5x x0.toNat++(⟨#[42]⟩:ByteArray)++d2t (c8e x1)++(⟨#[59]⟩:ByteArray))=st++d2h (x0,x1):=rfl;exact ⟨hlt,by show ByteArray.size (st++(b5x x0.toNat++(⟨#[42]⟩:ByteArray)++d2t (c8e x1)++(⟨#[59]⟩:ByteArray)))≤1130+41 * (i+1);rw [hxe,qln];omega,by show st++(b5x x0.toNat++(⟨#[42]⟩:ByteArray)++d2t (c8e x1)++(⟨#[59]⟩:ByteArray))=_;rw [hst,←hR,hxe]⟩
      ·show _ < _;show ws.length - (i+1) < ws.length - i;omega
     ·intro hc2;refine zn [9] ⟨?_⟩;refine yR [4,5] ⟨?_⟩;refine zr ⟨?_⟩;have hend2:st=f68 fl ins ws:=by rw [hR,qlx (by omega)];rfl
      exact b0g rfl (by rw [c99,hB,hend2];rfl) (.inl rfl)
set_option maxRecDepth 100000 in
theorem d11 (n:Int) (ss:List TS) (fl:List TA) (ins:List TI) (ws:List TW) (hs:ss.length≤1048576) (hl:fl.length≤1048576) (hls:∀t∈fl,t.1.size≤9223372036854775807) (hil:ins.length≤1048576) (hin:∀x∈ins,x.2.2.2.length≤1048576) (his:∀x∈ins,∀s∈x.2.2.2,s.size≤9223372036854775807) (hwl:ws.length≤1048576) (hwn:∀x∈ws,x.2.length≤1048576):Con Tryz.prog 26 [tQ n ss,kQ fl ins ws] [] (.tup [.str (c99 (b2o n ss fl ins ws) fl ins ws),.bool (b2o n ss fl ins ws)]) []:=by
 refine zcn [.tmp 4,.tmp 5] [] Tryz.func26 Tryz.ntmps26 ⟨?_⟩;intro Q0 n0 r0;have T:=Tys.mk (ai Ty.t3 (ai Ty.t4 (ai Ty.t9 (ai Ty.t24 (ai Ty.t26 (ai Ty.t27 (ai Ty.t28 (ai Ty.t29 (ai Ty.t31 (ai Ty.t32 (ai Ty.t35 (ai Ty.t53 (ai Ty.t55 (ai Ty.t91 Ty.t127))))))))))))));have F:=Fc.mk True.intro;refine yR [2,3] ⟨?_⟩;refine b0e ?_;intros;refine yRc [3,16] (b4c n ss fl ins ws hs hl hls hil hin his hwl hwn) ⟨?_⟩;refine b0a _ rfl ?_ ?_
 ·intro hc0;have hB:(b2o n ss fl ins ws)=false:=by
   cases hq:(b2o n ss fl ins ws) with
   |false=>rfl
   |true=>simp [hq] at hc0
  refine yR [4,5] ⟨?_⟩;refine zr ⟨?_⟩;exact b0g rfl (by rw [c99,hB];rfl) (.inl rfl)
 ·intro hc0;have hB:(b2o n ss fl ins ws)=true:=by
   cases hq:(b2o n ss fl ins ws) with
   |true=>rfl
   |false=>simp [hq] at hc0
  have hc:=b4f hB;have ht:=f00 hB;have h8:=ht.i8;have hw8:=ht.w8;have hf12:=ht.fls;have hiz:=c8p h8 ht.inc;have haz:(b6s fl).size≤228:=c8q hf12 ht.ap;have hcz:(c39 fl ins).size≤1130:=by
   simp only [c39,ByteArray.size_append,b83];omega
  have hz0:(⟨#[47]⟩:ByteArray).size=1:=rfl;have hz1:(⟨#[59]⟩:ByteArray).size=1:=rfl;have hz2:(⟨#[64]⟩:ByteArray).size=1:=rfl;have hz3:(⟨#[33]⟩:ByteArray).size=1:=rfl;have hz4:(⟨#[58]⟩:ByteArray).size=1:=rfl;have hz5:(⟨#[44]⟩:ByteArray).size=1:=rfl;have hz6:(⟨#[42]⟩:ByteArray).size=1:=rfl;have hz7:(⟨#[124]⟩:ByteArray).size=1:=rfl;have hz8:(⟨#[32]⟩:ByteArray).size=1:=rfl;refine zn [3] ⟨?_⟩;have F:=f8h @qln hz0 hz1 hz2 hz3 hz4 hz5 hz6 hz7 hz8;refine yRc [3,6] (d99 fl ht.fls ht.ap) ⟨?_⟩;refine b0e ?_;intros;refine yR [3,6,22,23,24] ⟨?_⟩;refine b0i ?_;intros;refine b08 (fun p=>⟨[(3,.ptr 0 0 0),(6,.str p.2),(22,sQ rQb ins),(23,.int .i64 ins.length),(24,.int .i64 (Nat.cast p.1))],[.box (kQ fl ins ws) .shal],false,69,0⟩) (fun p=>p.1≤ins.length∧p.2.size≤230+101 * p.1∧p.2=(b6s fl++(⟨#[124]⟩:ByteArray))++b5m ((ins.map b9a).take p.1) (⟨#[32]⟩:ByteArray)) (fun p=>ins.length - p.1) ((0,(b6s fl++(⟨#[124]⟩:ByteArray))):Nat×ByteArray) ?_ ?_ ?_
  ·refine b0d [3,6,22,23,24] [1] ⟨?_⟩;rfl
  ·exact ⟨qle _,by show ByteArray.size (b6s fl++(⟨#[124]⟩:ByteArray))≤_;simp only [ByteArray.size_append,hz7];omega,by show (b6s fl++(⟨#[124]⟩:ByteArray))=_;rw [qml,b8e,ByteArray.append_empty]⟩
  ·rintro ⟨i,st⟩ hok10 Q10 n10 e10 r10;obtain ⟨hi1,hsz,hR⟩:=hok10;simp only [] at hi1 hsz hR⊢;refine yR [3,6,22,23,24,25] ⟨?_⟩;refine b0e ?_;intros;refine b0a _ rfl ?_ ?_
   ·intro hc1;have hlt:i < ins.length:=by omega
    obtain ⟨⟨x0,x1,x2,x3⟩,hx⟩:∃x:TI,ins[i]? =some x:=⟨ins[i]'(by omega),qla (by omega)⟩;have hix:=ht.inc _ (qlb hx);have htz:=c1o hix;simp only [] at hix;have hxt:(ins.map b9a)[i]? =some (b9a (x0,x1,x2,x3)):=by rw [List.getElem?_map,hx];rfl
    refine zn [3,6,22,23,24] ⟨?_⟩;refine b0e ?_;intros;refine b0i ?_;intros;have F:=Fc.mk (ai @qln (ai hz0 (ai hz1 (ai hz2 (ai hz3 (ai hz4 (ai hz5 (ai hz6 (ai hz7 (ai hz8 (ai (gdm hx) (ai @qln (ai hz0 (ai hz1 (ai hz2 (ai hz3 (ai hz4 (ai hz5 (ai hz6 (ai hz7 hz8))))))))))))))))))));refine yR [3,6,7,8,22,23,24] ⟨?_⟩;refine b0e ?_;intros;refine yR [3,6,8,22,23,24,30] ⟨?_⟩;refine b0a _ rfl ?_ ?_
    ·intro hc2;refine yQ [3,6,8,22,23,24] ⟨?_⟩;refine yQc [3,6,22,23,24] (d0r x0 x1 x2 x3 hix) ⟨?_⟩;refine yV ⟨?_⟩;refine n10 _ (i+1,st++(⟨#[32]⟩:ByteArray)++b9a (x0,x1,x2,x3)) ?_ ?_ ?_
     ·refine b0d [3,6,22,23,24] [0] ⟨?_⟩;rfl
     ·exact ⟨hlt,by show ByteArray.size (st++(⟨#[32]⟩:ByteArray)++_)≤230+101 * (i+1);simp only [ByteArray.size_append,hz8];omega,by show st++(⟨#[32]⟩:ByteArray)++_=_;rw [hR,c41 hxt (by omega)];simp only [ByteArray.append_assoc]⟩
     ·show _ < _;show ins.length - (i+1) < ins.length - i;omega
    ·intro hc2;refine zn [3,6,8,22,23,24] ⟨?_⟩;refine yQc [3,6,22,23,24] (d0r x0 x1 x2 x3 hix) ⟨?_⟩;refine yV ⟨?_⟩;refine n10 _ (i+1,st++b9a (x0,x1,x2,x3)) ?_ ?_ ?_
     ·refine b0d [3,6,22,23,24] [0] ⟨?_⟩;rfl
     ·have h00:i=0:=by omega
      subst h00;exact ⟨hlt,by show ByteArray.size (st++_)≤230+101 * 1;simp only [ByteArray.size_append];omega,by show st++_=_;rw [hR,c4z hxt,qml,b8e,ByteArray.append_empty]⟩
     ·show _ < _;show ins.length - (i+1) < ins.length - i;omega
   ·intro hc1;have hbase:st++(⟨#[124]⟩:ByteArray)=c39 fl ins:=by rw [hR,qlx (by rw [qmj];omega)];rfl
    refine zn [3,6] ⟨?_⟩;have F:=Fc.mk (ai @qln (ai hz0 (ai hz1 (ai hz2 (ai hz3 (ai hz4 (ai hz5 (ai hz6 (ai hz7 (ai hz8 (ai @qln (ai hz0 (ai hz1 (ai hz2 (ai hz3 (ai hz4 (ai hz5 (ai hz6 (ai hz7 hz8)))))))))))))))))));refine yR [3,6] ⟨?_⟩;refine b0e ?_;intros;refine yR [6,41,42,43] ⟨?_⟩;refine b0i ?_;intros;refine b08 (fun p=>⟨[(6,.str p.2),(41,sQ rQc ws),(42,.int .i64 ws.length),(43,.int .i64 (Nat.cast p.1))],[],false,69,0⟩) (fun p=>p.1≤ws.length∧p.2.size≤1130+41 * p.1∧p.2=d0o (c39 fl ins) (ws.take p.1)) (fun p=>ws.length - p.1) ((0,c39 fl ins):Nat×ByteArray) ?_ ?_ ?_
    ·refine b0d [6,41,42,43] [] ⟨?_⟩;rw [hbase];rfl
    ·exact ⟨qle _,by show (c39 fl ins).size≤_;omega,rfl⟩
    ·rintro ⟨i,st⟩ hok29 Q29 n29 e29 r29;obtain ⟨hi1,hsz,hR⟩:=hok29;simp only [] at hi1 hsz hR⊢;refine yR [6,41,42,43,44] ⟨?_⟩;refine b0e ?_;intros;refine b0a _ rfl ?_ ?_
     ·intro hc3;have hlt:i < ws.length:=by omega
      obtain ⟨⟨x0,x1⟩,hx⟩:∃x:TW,ws[i]? =some x:=⟨ws[i]'(by omega),qla (by omega)⟩;have hwx:=ht.want _ (qlb hx);have hst:=c62 (s:=c39 fl ins) hx;simp only [] at hwx;obtain ⟨hw0,hw4,hwn2⟩:=hwx;have hs0:=f79 hw0;have hcs:=d3k hw4 hwn2;have hwz:(d2h (x0,x1)).size≤41:=by
       simp only [d2h,ByteArray.size_append,b83];omega
      refine zn [6,41,42,43] ⟨?_⟩;refine b0e ?_;intros;refine b0i ?_;intros;have F:=Fc.mk (ai @qln (ai hz0 (ai hz1 (ai hz2 (ai hz3 (ai hz4 (ai hz5 (ai hz6 (ai hz7 (ai hz8 (ai @qln (ai hz0 (ai hz1 (ai hz2 (ai hz3 (ai hz4 (ai hz5 (ai hz6 (ai hz7 (ai hz8 (ai (gdm hx) (ai @qln (ai hz0 (ai hz1 (ai hz2 (ai hz3 (ai hz4 (ai hz5 (ai hz6 (ai hz7 hz8))))))))))))))))))))))))))))));refine yR [6,10,41,42,43] ⟨?_⟩;refine yRc [6,10,41,42,43] (b7i x0 (by omega)) ⟨?_⟩;refine b0e ?_;intros;refine yR [6,41,42,43,54,55,56] ⟨?_⟩;refine b0i ?_;intros;refine b08 (fun q=>⟨[(6,.str q.2),(41,sQ rQc ws),(42,.int .i64 ws.length),(43,.int .i64 (Nat.cast i)),(54,.sl (x1.map (V.int .i64))),(55,.int .i64 x1.length),(56,.int .i64 (Nat.cast q.1))],[],false,69,0⟩) (fun q=>q.1≤x1.length∧q.2.size≤st.size+4+9 * q.1∧q.2=st++(b5x x0.toNat++(⟨#[42]⟩:ByteArray))++d2t (c8e (x1.take q.1))) (fun q=>x1.length - q.1) ((0,st++(b5x x0.toNat++(⟨#[42]⟩:ByteArray))):Nat×ByteArray) ?_ ?_ ?_
      ·refine b0d [6,41,42,43,54,55,56] [] ⟨?_⟩;rfl
      ·exact ⟨qle _,by show ByteArray.size (st++(b5x x0.toNat++(⟨#[42]⟩:ByteArray)))≤_;simp only [ByteArray.size_append,hz6];omega,by show _=st++(b5x x0.toNat++(⟨#[42]⟩:ByteArray))++ByteArray.empty;rw [ByteArray.append_empty]⟩
      ·rintro ⟨j,s2⟩ hok40 Q40 n40 e40 r40;obtain ⟨hj1,hs2,hS⟩:=hok40;simp only [] at hj1 hs2 hS⊢;refine yR [6,41,42,43,54,55,56,57] ⟨?_⟩;refine b0e ?_;intros;refine b0a _ rfl ?_ ?_
       ·intro hc4;have hlj:j < x1.length:=by omega
        obtain ⟨y,hy⟩:∃y,x1[j]? =some y:=⟨x1[j],qla hlj⟩;have hyn:=hwn2 y (qlb hy);have hys:=b9e 9 y.toNat (by omega) (by omega);have hct:=f3k hy;refine zn [6,41,42,43,54,55,56] ⟨?_⟩;refine b0e ?_;intros;refine b0i ?_;intros;have F:=Fc.mk (ai @qln (ai hz0 (ai hz1 (ai hz2 (ai hz3 (ai hz4 (ai hz5 (ai hz6 (ai hz7 (ai hz8 (ai @qln (ai hz0 (ai hz1 (ai hz2 (ai hz3 (ai hz4 (ai hz5 (ai hz6 (ai hz7 (ai hz8 (ai (gdm hx) (ai @qln (ai hz0 (ai hz1 (ai hz2 (ai hz3 (ai hz4 (ai hz5 (ai hz6 (ai hz7 (ai hz8 (ai (gdm hy) (ai @qln (ai hz0 (ai hz1 (ai hz2 (ai hz3 (ai hz4 (ai hz5 (ai hz6 (ai hz7 hz8)))))))))))))))))))))))))))))))))))))))));refine yR [6,12,41,42,43,54,55,56] ⟨?_⟩;refine yQc [6,41,42,43,54,55,56] (b7i y (by omega)) ⟨?_⟩;refine yV ⟨?_⟩;refine n40 _ (j+1,s2++b5x y.toNat) ?_ ?_ ?_
        ·refine b0d [6,41,42,43,54,55,56] [] ⟨?_⟩;rfl
        ·exact ⟨hlj,by show ByteArray.size (s2++_)≤st.size+4+9 * (j+1);rw [qln];omega,by show s2++_=_;rw [hct,hS,ByteArray.append_assoc]⟩
        ·show _ < _;show x1.length - (j+1) < x1.length - j;omega
       ·intro hc4;have hje:s2=st++(b5x x0.toNat++(⟨#[42]⟩:ByteArray))++d2t (c8e x1):=by rw [hS,qlx (by omega)]
        refine zn [6,41,42,43] ⟨?_⟩;have F:=Fc.mk (ai @qln (ai hz0 (ai hz1 (ai hz2 (ai hz3 (ai hz4 (ai hz5 (ai hz6 (ai hz7 (ai hz8 (ai @qln (ai hz0 (ai hz1 (ai hz2 (ai hz3 (ai hz4 (ai hz5 (ai hz6 (ai hz7 (ai hz8 (ai (gdm hx) (ai @qln (ai hz0 (ai hz1 (ai hz2 (ai hz3 (ai hz4 (ai hz5 (ai hz6 (ai hz7 (ai hz8 (ai @qln (ai hz0 (ai hz1 (ai hz2 (ai hz3 (ai hz4 (ai hz5 (ai hz6 (ai hz7 hz8))))))))))))))))))))))))))))))))))))))));refine yQ [6,41,42,43] ⟨?_⟩;refine yV ⟨?_⟩;refine n29 _ (i+1,s2++(⟨#[59]⟩:ByteArray)) ?_ ?_ ?_
        ·refine b0d [6,41,42,43] [] ⟨?_⟩;rfl
        ·have hxe:s2++(⟨#[59]⟩:ByteArray)=st++d2h (x0,x1):=by rw [hje];simp only [d2h,ByteArray.append_assoc]
         exact ⟨hlt,by show ByteArray.size (s2++(⟨#[59]⟩:ByteArray))≤1130+41 * (i+1);rw [hxe,qln];omega,by show s2++(⟨#[59]⟩:ByteArray)=_;rw [hst,←hR,hxe]⟩
        ·show _ < _;show ws.length - (i+1) < ws.length - i;omega
     ·intro hc3;refine zn [6] ⟨?_⟩;refine yR [4,5] ⟨?_⟩;refine zr ⟨?_⟩;have hend2:st=f68 fl ins ws:=by rw [hR,qlx (by omega)];rfl
      exact b0g rfl (by rw [c99,hB,hend2];rfl) (.inl rfl)
end Go.Proofs.YtmbbjhopngejaaaGreatDoor
