/- What functions compute. No condition. -/
import Derived.Test.YtmbbjhopngejaaaGreatX9
set_option linter.all false
open Array renaming replicate → Za
open Option renaming toList → Zb
open Go.Vm.V renaming int → Zc, str → Zf
open Bool renaming and_eq_true → Zd
open Nat renaming cast → Ze
namespace Go.Proofs.YtmbbjhopngejaaaGreat
open Go Go.Vm Tryz
set_option maxHeartbeats 8000000
def b3r {α:Type} (b:Bool) (l:List α):List α:=bif b then l else []
theorem b14 {α:Type} (l:List α):b3r true l=l:=rfl
theorem b3e {α:Type} (l:List α):b3r false l=[]:=rfl
theorem d51 {α:Type} {b:Bool} {l:List α} {P:α→Prop} (h:∀x∈l,P x):∀x∈b3r b l,P x:=by
  cases b
  · intro x hx;cases hx
  · exact h
theorem c9t {α:Type} {p:α→Bool} {l:List α} (h:0≤b2r p 0 l):∃(k:Nat) (x:α),l[k]? =some x∧p x=true∧b2r p 0 l=(k:Int):=by
  obtain ⟨k,_,h2,_,x,h4,h5⟩:=c2o (p:=p) (l:=l) (i:=0) (by omega);exact ⟨k,x,h4,h5,by rw [h2,Nat.zero_add]⟩
theorem c02 {fl:List TA} {s:ByteArray} (h:0≤b4l fl s):∃(k:Nat) (x:TA),fl[k]? =some x∧x.1=s∧b4l fl s=(k:Int):=by
  rcases c4d fl s with q | ⟨k,x,h1,h2,h3⟩
  · omega
  · exact ⟨k,x,h2,h3,h1⟩
theorem b83 {ins:List TI} {n:Int} (h:0≤b3j ins n):∃(k:Nat) (x:TI),ins[k]? =some x∧(x.1=n∧x.2.2.1=false)∧b3j ins n=(k:Int):=by
  obtain ⟨k,x,h1,h2,h3⟩:=c9t h;simp only [Zd,decide_eq_true_eq,Bool.not_eq_true'] at h2;exact ⟨k,x,h1,h2,h3⟩
theorem c8n {ins:List TI} {s:ByteArray} (h:0≤b6k ins s):∃(k:Nat) (x:TI),ins[k]? =some x∧inS s x.2.2.2=true∧b6k ins s=(k:Int):=c9t h
structure CtlFacts (n:Int) (ss:List TS) (fl:List TA) (ins:List TI) (ws:List TW):Prop where
  ds:DsFacts n ss fl
  town:c0c n ss=true
  ins8:c4a ins=true
  node:∀x∈ins,0≤x.2.1∧x.2.1 < n
  names:∀x∈ins,∀s∈x.2.2.2,0≤b4l fl s
  busy:∀a∈fl,c19 a=decide (0≤b6k ins a.1)
  ws8:ws.length≤8
  want:∀w∈ws,0≤b3j ins w.1∧b3c w.2=true
section
variable {n:Int} {ss:List TS} {fl:List TA} {ins:List TI} {ws:List TW}
theorem b5c (h:b3g n ss fl ins ws=true):CtlFacts n ss fl ins ws:=by
  simp only [b3g,d3r,Zd,List.all_eq_true,decide_eq_true_eq,Bool.not_eq_true',decide_eq_false_iff_not,List.mem_range] at h;obtain ⟨⟨⟨⟨⟨h1,h2⟩,h3⟩,h4⟩,h5⟩,h6⟩:=h;have hd:=d8z h1;refine ⟨hd,?_,h2,fun x hx=> ?_,fun x hx s hs=> ?_,fun a ha=> ?_,by omega,fun w hw=> ?_⟩
  · simp only [dsB,Zd] at h1;exact h1.1.1
  · have:=h4 x hx
    rw [inP,qlg,b6f hd.hn,qlg,decide_eq_true_eq,decide_eq_true_eq] at this;exact this.1
  · have:=h4 x hx
    rw [inP,qlg,qlk] at this;simpa using this.2 s hs
  · have:=h5 a ha
    rw [b57] at this;simpa using this
  · obtain ⟨i,hi,rfl⟩:=List.getElem_of_mem hw
    have:=h6 i hi;rw [b6j,qla hi] at this;simp only [Zd,decide_eq_true_eq] at this;exact ⟨this.1.1,this.1.2⟩
theorem b5b (h:b3g n ss fl ins ws=true):c0c n ss=true:=(b5c h).town
theorem c9w (h:CtlFacts n ss fl ins ws):∀w∈ws,w.2.length=4∧∀x∈w.2,0≤x∧x≤6:=by
  intro w hw;have:=(h.want w hw).2;rw [b3c,qlg] at this;exact b5i this.1
end
def b3v (fl:List TA) (i:Nat):List ByteArray:=((fl.take i).filter b19).map fun a=>a.1
theorem d8o {fl:List TA} {i:Nat} {x:TA} (h:fl[i]? =some x) (hp:b19 x=true):b3v fl (i+1)=b3v fl i++[x.1]:=by
  rw [b3v,qlx,h,Zb,List.filter_append];simp [hp,b3v]
theorem f4o {fl:List TA} {i:Nat} {x:TA} (h:fl[i]? =some x) (hp:b19 x=false):b3v fl (i+1)=b3v fl i:=by
  rw [b3v,qlx,h,Zb,List.filter_append];simp [hp,b3v]
theorem d89 (fl:List TA) (i:Nat):(b3v fl i).length≤i:=by
  rw [b3v,qlu];exact ql7 (List.length_filter_le ..) (by rw [qlj];omega)
def stA (fl:List TA) (s:ByteArray):Int:=match fl[(b4l fl s).toNat]? with | some a=>a.2.2.2.2 | none=>0
theorem c9h {fl:List TA} {s:ByteArray} {k:Nat} {x:TA} (h:b4l fl s=(k:Int)) (hx:fl[k]? =some x):stA fl s=x.2.2.2.2:=by
  rw [stA,h,qlh,hx]
def c87 (ins:List TI) (n:Int):List ByteArray:=match ins[(b3j ins n).toNat]? with | some x=>x.2.2.2 | none=>[]
theorem c6l {ins:List TI} {n:Int} {k:Nat} {x:TI} (h:b3j ins n=(k:Int)) (hx:ins[k]? =some x):c87 ins n=x.2.2.2:=by
  rw [c87,h,qlh,hx]
def atB (n:Int) (ss:List TS) (fl:List TA) (ins:List TI) (ws:List TW) (m:Int):Bool:=b3g n ss fl ins ws && decide (0≤b3j ins m)
def b4n (fl:List TA) (ins:List TI) (m:Int):List Int:=(c87 ins m).map (stA fl)
theorem b2t {α β:Type} {f:α→β} {l:List α} {i:Nat} {x:α} (h:l[i]? =some x):(l.take (i+1)).map f=(l.take i).map f++[f x]:=by
  rw [qlx,h,Zb];simp only [aQ,fQ,List.map_append];try rfl
def c7y:List Int→List Int→List Int
  | a::xs,b::ys=>(a+b)::c7y xs ys
  | xs,[]=>xs
  | [],_=>[]
theorem c8c:∀l:List Int,c7y l []=l
  | []=>rfl
  | _::_=>rfl
theorem c8i:∀a b:List Int,(c7y a b).length=a.length
  | [],[]=>rfl
  | [],_::_=>rfl
  | _::_,[]=>rfl
  | a::xs,b::ys=>by rw [c7y,qme,qme,c8i xs ys]
theorem c88:∀{acc l:List Int} {k:Nat} {a b:Int},acc[k]? =some a→l[k]? =some b→(c7y acc (l.take k))[k]? =some a∧(c7y acc (l.take k)).set k (a+b)=c7y acc (l.take (k+1))
  | [],_,_,_,_,h,_=>by simp at h
  | _::_,[],_,_,_,_,h=>by simp at h
  | x::acc,y::l,0,a,b,h,k=>by
    simp at h k;subst h k;refine ⟨by simp [c7y],?_⟩;simp [c7y,c8c]
  | x::acc,y::l,k+1,a,b,h,q=>by
    obtain ⟨h1,h2⟩:=c88 (acc:=acc) (l:=l) (k:=k) (a:=a) (b:=b) (by simpa using h) (by simpa using q);refine ⟨by simpa [c7y] using h1,?_⟩;rw [List.take_succ_cons,c7y,List.set_cons_succ,h2,List.take_succ_cons,c7y]
theorem d06:∀{acc l:List Int} {A B:Int},0≤B→(∀x∈acc,0≤x∧x≤A)→(∀x∈l,0≤x∧x≤B)→∀x∈c7y acc l,0≤x∧x≤A+B
  | [],[],_,_,_,_,_,x,hx=>by cases hx
  | [],_::_,_,_,_,_,_,x,hx=>by cases hx
  | a::acc,[],A,B,hB,h1,_,x,hx=>by
    have:=h1 x hx;omega
  | a ::acc,b::l,A,B,hB,h1,h2,x,hx=>by
    rcases qlv.1 hx with e | e
    · have q1:=h1 a (qlp ..)
      have q2:=h2 b (qlp ..);subst e;omega
    · exact d06 hB (fun y hy=>h1 y (qlq _ hy)) (fun y hy=>h2 y (qlq _ hy)) x e
def b4o (ws:List TW) (i:Nat):List Int:=(ws.take i).foldl (fun acc w=>c7y acc w.2) [0,0,0,0]
theorem b8d {ws:List TW} {i:Nat} {w:TW} (h:ws[i]? =some w):b4o ws (i+1)=c7y (b4o ws i) w.2:=by
  rw [b4o,qlx,h,Zb,List.foldl_append];rfl
theorem b4k (ws:List TW):∀i,(b4o ws i).length=4
  | 0=>rfl
  | i+1=>by
    cases h:ws[i]? with
    | none=>rw [b4o,qlx,h];simp only [Zb,List.append_nil];exact b4k ws i
    | some w=>rw [b8d h,c8i,b4k ws i]
theorem b8g {ws:List TW} (hw:∀w∈ws,w.2.length=4∧∀x∈w.2,0≤x∧x≤6):∀i,∀x∈b4o ws i,0≤x∧x≤6 * (i:Int)
  | 0,x,hx=>by
    have:b4o ws 0=[0,0,0,0]:=rfl;rw [this] at hx;simp at hx;omega
  | i + 1,x,hx=>by
    cases h:ws[i]? with
    | none=>
      have e:b4o ws (i+1)=b4o ws i:=by rw [b4o,qlx,h];simp only [Zb,List.append_nil];rfl
      rw [e] at hx;have:=b8g hw i x hx;omega
    | some w=>
      rw [b8d h] at hx;have:=d06 (by omega) (b8g hw i) (hw w (qlb h)).2 x hx;omega
def d23 (fl:List TA) (s:ByteArray):Bool:=decide (0≤b4l fl s) && decide (stA fl s=2)
def g0h (fl:List TA) (ins:List TI) (s:ByteArray):List TA:=match fl[(b4l fl s).toNat]?,ins[(b6k ins s).toNat]? with
  | some a,some x=>fl.set (b4l fl s).toNat (a.1,a.2.1,x.2.1,a.2.2.2.1,3)
  | _,_=>fl
theorem f5x {fl:List TA} {ins:List TI} {s:ByteArray} {k m:Nat} {a:TA} {x:TI} (h1:b4l fl s=(k:Int)) (h2:fl[k]? =some a) (h3:b6k ins s=(m:Int)) (h4:ins[m]? =some x):g0h fl ins s=fl.set k (a.1,a.2.1,x.2.1,a.2.2.2.1,3):=by
  rw [g0h,h1,h3,qlh,qlh,h2,h4]
theorem f6p {n:Int} {ss:List TS} {fl:List TA} {ins:List TI} {ws:List TW} (h:CtlFacts n ss fl ins ws) {s:ByteArray} {k:Nat} {a:TA} (h1:fl[k]? =some a) (h2:a.1=s) (h3:a.2.2.2.2=2):0≤b6k ins s:=by
  have:=h.busy a (qlb h1);rw [c19,h3,h2] at this;simpa using this.symm
theorem c65 (l:List ByteArray) (hl:l.length≤1048576):Con prog 139 [.sl (l.map Zf)] [] (.ref 0) [.arr (l.map Zf) .flat]:=by
 have hns:(l.map Zf).all V.noSl=true:=by rw [qmp,qlk];intro a _;rfl
 apply zcn [.tmp 2] [] func139 ntmps139;intro _ _ _;have T:=tq2 Y9 Y48;have F:=Fc.mk True.intro;have F:=Fc.mk hns;apply yR [0];apply b0e;intros;apply b1l [0,4];intro _ k3;apply (zU);apply (g1o);intro _ hnb4;apply k3 _;apply (zk);apply b0c _ rfl
 ·intro hc0;have hnil:l=[]:=by cases l with | nil=>rfl | cons a b=>have:=hnb4 (by simp);rw [hc0] at this;cases this
  apply yR [2];apply (zr);rw [hnil];exact b1q rfl rfl rfl
 ·intro hc0;apply zn [0];apply yR [2];apply (zr);exact b1q rfl rfl (by simp)
section
variable (l:List TI) (hl:l.length≤1048576) (hls:∀t∈l,t.2.2.2.length≤1048576)
include l hl hls
theorem b6z:Con prog 95 [sQ rQb l] [] (.ref 0) [fQ rQb l]:=by
 apply zcn [.tmp 2] [] func95 ntmps95;intro _ _ _;have T:=tq6 Y3 Y4 Y9 Y29 Y48 Y96;have F:=Fc.mk True.intro;apply yR [0];apply yR [0,3];apply b0e;intros;apply yR [3,6,7,8];apply b0g;intros;apply b05 (fun i=>⟨[(3,.ref 0),(6,sQ rQb l),(7,.int .i64 l.length),(8,.int .i64 (Ze i))],[.arr ((l.take i).map rQb) (b1w i)],false,22,0⟩) (fun i=>i≤l.length) (fun i=>l.length - i) 0
 ·apply b0d [3,6,7,8] [1];rfl
 ·exact qle _
 ·rintro i hok6 Q6 n6 e6 r6;have hi1:i≤l.length:=hok6;apply yR [3,6,7,8,9];apply b0e;intros;apply b0c _ rfl
  ·intro hc0;have hlt:i < l.length:=by omega
   obtain ⟨⟨x0,x1,x2,x3⟩,hx⟩:∃x:TI,l[i]? =some x:=⟨l[i]'(by omega),qla (by omega)⟩;have hlx:=hls _ (qlb hx);simp only [] at hlx;have hsn:(l.take i).map rQb++[V.agg [Zc .i64 x0,Zc .i64 x1,V.bool x2,V.sl (x3.map Zf)]]=(l.take (i+1)).map rQb:=(b2t (f:=rQb) hx).symm;have hti:(l.take i).length=i:=by rw [qlj];omega
   apply zn [3,6,7,8];apply b0e;intros;apply b0g;intros;have F:=fq2 (gdm hx) hti;apply yR [3,5,6,7,8];apply yRc [3,5,6,7,8] (c65 x3 hlx);apply yQ [3,6,7,8];apply (yV);apply n6 _ (i+1)
   ·apply b0d [3,6,7,8] [5]
    (try simp only [aQ,fQ]);rw [←hsn];rfl
   ·exact hlt
   ·show _ < _;omega
  ·intro hc0;have hend:i=l.length:=by omega
   subst hend;apply zn [3];apply yR [2];apply (zr);rw [ql9];exact b1q rfl (by unfold b1w;split<;>rfl) rfl
theorem b3p:Con prog 79 [sQ rQb l] [] (.ref 0) [fQ rQb l]:=by
 apply zcn [.tmp 2] [] func79 ntmps79;intro _ _ _;have T:=tq6 Y3 Y4 Y9 Y29 Y48 Y96;have F:=Fc.mk True.intro;apply yR [0];apply yR [0,3];apply b0e;intros;apply yR [3,6,7,8];apply b0g;intros;apply b05 (fun i=>⟨[(3,.ref 0),(6,sQ rQb l),(7,.int .i64 l.length),(8,.int .i64 (Ze i))],[.arr ((l.take i).map rQb) (b1w i)],false,23,0⟩) (fun i=>i≤l.length) (fun i=>l.length - i) 0
 ·apply b0d [3,6,7,8] [1];rfl
 ·exact qle _
 ·rintro i hok6 Q6 n6 e6 r6;have hi1:i≤l.length:=hok6;apply yR [3,6,7,8,9];apply b0e;intros;apply b0c _ rfl
  ·intro hc0;have hlt:i < l.length:=by omega
   obtain ⟨⟨x0,x1,x2,x3⟩,hx⟩:∃x:TI,l[i]? =some x:=⟨l[i]'(by omega),qla (by omega)⟩;have hlx:=hls _ (qlb hx);simp only [] at hlx;have hsn:(l.take i).map rQb++[V.agg [Zc .i64 x0,Zc .i64 x1,V.bool x2,V.sl (x3.map Zf)]]=(l.take (i+1)).map rQb:=(b2t (f:=rQb) hx).symm;have hti:(l.take i).length=i:=by rw [qlj];omega
   have hns:(x3.map Zf).all V.noSl=true:=by rw [qmp,qlk];intro _ _;rfl
   apply zn [3,6,7,8];apply b0e;intros;apply b0g;intros;have F:=fq3 (gdm hx) hti hns;apply yR [3,5,6,7,8];apply yR [3,5,6,7,8];apply yQ [3,6,7,8];apply (yV);apply n6 _ (i+1)
   ·apply b0d [3,6,7,8] [6]
    (try simp only [aQ,fQ]);rw [←hsn];rfl
   ·exact hlt
   ·show _ < _;omega
  ·intro hc0;have hend:i=l.length:=by omega
   subst hend;apply zn [3];apply yR [2];apply (zr);rw [ql9];exact b1q rfl (by unfold b1w;split<;>rfl) rfl
end
theorem b3w (l:List TW) (hl:l.length≤1048576) (hls:∀t∈l,t.2.length≤1048576):Con prog 66 [sQ rQc l] [] (.ref 0) [fQ rQc l]:=by
 apply zcn [.tmp 2] [] func66 ntmps66;intro _ _ _;have T:=tq4 Y3 Y30 Y41 Y81;have F:=Fc.mk True.intro;apply yR [0];apply yR [0,3];apply b0e;intros;apply yR [3,6,7,8];apply b0g;intros;apply b05 (fun i=>⟨[(3,.ref 0),(6,sQ rQc l),(7,.int .i64 l.length),(8,.int .i64 (Ze i))],[.arr ((l.take i).map rQc) (b1w i)],false,23,0⟩) (fun i=>i≤l.length) (fun i=>l.length - i) 0
 ·apply b0d [3,6,7,8] [1];rfl
 ·exact qle _
 ·rintro i hok6 Q6 n6 e6 r6;have hi1:i≤l.length:=hok6;apply yR [3,6,7,8,9];apply b0e;intros;apply b0c _ rfl
  ·intro hc0;have hlt:i < l.length:=by omega
   obtain ⟨⟨x0,x1⟩,hx⟩:∃x:TW,l[i]? =some x:=⟨l[i]'(by omega),qla (by omega)⟩;have hlx:=hls _ (qlb hx);simp only [] at hlx;have hsn:(l.take i).map rQc++[V.agg [Zc .i64 x0,V.sl (x1.map (Zc .i64))]]=(l.take (i+1)).map rQc:=(b2t (f:=rQc) hx).symm;have hti:(l.take i).length=i:=by rw [qlj];omega
   apply zn [3,6,7,8];apply b0e;intro _ n10 _ _;apply b0g;intro _ n11 _ _ _;have F:=fq2 (gdm hx) hti;apply yR [3,5,6,7,8];apply b1b (by kernel_rfl);intro _ q13 k13;show b13 _ _ _ _ 10 (Za 10 false) _;refine zdU q13 true 0 12 ?_;refine zdU q13 true 1 13 ?_;refine b08 q13 true 2 14 ?_;refine zdU q13 true 3 15 ?_;refine b08 q13 true 4 16 ?_;apply zoc 5 (c5m x1 hlx);refine b15 q13 true 6 18 ?_;apply b1j 7;apply b0l 8;apply b0q 9;apply b0b (by kernel_rfl);apply k13 _;apply n11 _;apply n10 _ _ (b0a [3,6,7,8] _);apply (zk);apply (yV);apply n6 _ (i+1)
   ·apply b0d [3,6,7,8] [5]
    (try simp only [aQ,fQ]);rw [←hsn];rfl
   ·exact hlt
   ·show _ < _;omega
  ·intro hc0;have hend:i=l.length:=by omega
   subst hend;apply zn [3];apply yR [2];apply (zr);rw [ql9];exact b1q rfl (by unfold b1w;split<;>rfl) rfl
set_option maxRecDepth 8000 in
section
variable (fl:List TA) (ins:List TI) (ws:List TW) (hl:fl.length≤1048576) (hil:ins.length≤1048576) (hin:∀x∈ins,x.2.2.2.length≤1048576) (hwl:ws.length≤1048576) (hwn:∀x∈ws,x.2.length≤1048576)
include fl ins ws hl hil hin hwl hwn
theorem c1i:Con prog 38 [.pv [kQ fl ins ws] 0 0] [] (.agg [.ref 0,.ref 1,.ref 2]) [aQ rQa fl,fQ rQb ins,fQ rQc ws]:=by
 apply zcn [.cell 2 32] [] func38 ntmps38;intro _ _ _;have T:=c2r Y3 Y4 Y9 Y28 Y29 Y30 Y32 Y41 Y48 Y81 Y96 Y98;have F:=Fc.mk True.intro;apply yR [0,2];apply b0e;intro _ n2 _ _;apply b1b (by kernel_rfl);intro _ q3 k3;show b13 _ _ _ _ 13 (Za 13 false) _;refine zdU q3 true 0 6 ?_;refine zdU q3 true 1 7 ?_;refine zdU q3 true 2 8 ?_;refine b00 q3 true 3 9 ?_;refine zdU q3 true 5 11 ?_;refine zdU q3 true 6 12 ?_;refine zdU q3 true 7 13 ?_;refine b00 q3 true 8 14 ?_;apply b1e 4 11 rfl rfl (by kernel_rfl)
 ·apply zsc (b49 fl hl);apply b1e 9 11 rfl rfl (by kernel_rfl)
  ·apply zsc (b6z ins hil hin);refine b15 q3 true 10 16 ?_;apply c33 11;apply b06 12;apply b0b (by kernel_rfl);apply k3 _;apply n2 _ _ (b0a [0,2,3] _);apply (zk);apply b0e;intros;apply yR [2,3,20,21,22];apply b0g;intros;apply b05 (fun i=>⟨[(2,.ptr 3 0 0),(3,.ptr 7 0 0),(20,sQ rQc ws),(21,.int .i64 ws.length),(22,.int .i64 (Ze i))],[eQ,eQ,eQ,bQ 0 1 2,aQ rQa fl,fQ rQb ins,.arr ((ws.take i).map rQc) (b1w i),bQ 4 5 6],false,39,0⟩) (fun i=>i≤ws.length) (fun i=>ws.length - i) 0
   ·apply b1a [2,3,20,21,22] [0,1,2,3,4,5,10,9];rfl
   ·exact qle _
   ·rintro i hok7 Q7 n7 e7 r7;have hi1:i≤ws.length:=hok7;apply yR [2,3,20,21,22,23];apply b0e;intros;apply b0c _ rfl
    ·intro hc0;have hlt:i < ws.length:=by omega
     obtain ⟨⟨x0,x1⟩,hx⟩:∃x:TW,ws[i]? =some x:=⟨ws[i]'(by omega),qla (by omega)⟩;have hlx:=hwn _ (qlb hx);simp only [] at hlx;have hsn:(ws.take i).map rQc++[V.agg [Zc .i64 x0,V.sl (x1.map (Zc .i64))]]=(ws.take (i+1)).map rQc:=(b2t (f:=rQc) hx).symm;have hti:(ws.take i).length=i:=by rw [qlj];omega
     apply zn [2,3,20,21,22];apply b0e;intro _ n11 _ _;apply b0g;intro _ n12 _ _ _;have F:=fq2 (gdm hx) hti;apply yR [2,3,5,20,21,22];apply b1b (by kernel_rfl);intro _ q14 k14;show b13 _ _ _ _ 12 (Za 12 false) _;refine zdU q14 true 0 26 ?_;refine b00 q14 true 1 27 ?_;refine zdU q14 true 2 28 ?_;refine b00 q14 true 3 29 ?_;refine zdU q14 true 4 30 ?_;refine b00 q14 true 5 31 ?_;apply zoc 6 (b4g x1 hlx);refine b15 q14 true 7 33 ?_;apply b1j 8;apply b0l 9;refine zdU q14 true 10 36 ?_;apply b06 11;apply b0b (by kernel_rfl);apply k14 _;apply n12 _;apply n11 _ _ (b0a [2,3,20,21,22] _);apply (zk);apply (yV);apply n7 _ (i+1)
     ·apply b1a [2,3,20,21,22] [0,1,2,3,4,5,12,7]
      (try simp only [aQ,fQ]);rw [←hsn];rfl
     ·exact hlt
     ·show _ < _;omega
    ·intro hc0;have hend:i=ws.length:=by omega
     subst hend;apply zn [2,3];apply yR [2];apply (zq3);rw [ql9];exact rta
  ·apply (b35);apply zoc 9 (b6z ins hil hin);refine b15 q3 true 10 16 ?_;apply b06 12;apply b0b (by kernel_rfl);apply k3 _;apply n2 _ _ (b0a [0,2,3] _);apply (zk);apply b0e;intros;apply yR [2,3,20,21,22];apply b0g;intros;apply b05 (fun i=>⟨[(2,.ptr 3 0 0),(3,.ptr 7 0 0),(20,sQ rQc ws),(21,.int .i64 ws.length),(22,.int .i64 (Ze i))],[eQ,eQ,eQ,bQ 0 1 2,aQ rQa fl,fQ rQb ins,.arr ((ws.take i).map rQc) (b1w i),bQ 4 5 6],false,39,0⟩) (fun i=>i≤ws.length) (fun i=>ws.length - i) 0
   ·apply b1a [2,3,20,21,22] [0,1,2,3,4,9,10,8];rfl
   ·exact qle _
   ·rintro i hok20 Q20 n20 e20 r20;have hi1:i≤ws.length:=hok20;apply yR [2,3,20,21,22,23];apply b0e;intros;apply b0c _ rfl
    ·intro hc0;have hlt:i < ws.length:=by omega
     obtain ⟨⟨x0,x1⟩,hx⟩:∃x:TW,ws[i]? =some x:=⟨ws[i]'(by omega),qla (by omega)⟩;have hlx:=hwn _ (qlb hx);simp only [] at hlx;have hsn:(ws.take i).map rQc++[V.agg [Zc .i64 x0,V.sl (x1.map (Zc .i64))]]=(ws.take (i+1)).map rQc:=(b2t (f:=rQc) hx).symm;have hti:(ws.take i).length=i:=by rw [qlj];omega
     apply zn [2,3,20,21,22];apply b0e;intro _ n24 _ _;apply b0g;intro _ n25 _ _ _;have F:=fq2 (gdm hx) hti;apply yR [2,3,5,20,21,22];apply b1b (by kernel_rfl);intro _ q27 k27;show b13 _ _ _ _ 12 (Za 12 false) _;refine zdU q27 true 0 26 ?_;refine b00 q27 true 1 27 ?_;refine zdU q27 true 2 28 ?_;refine b00 q27 true 3 29 ?_;refine zdU q27 true 4 30 ?_;refine b00 q27 true 5 31 ?_;apply zoc 6 (b4g x1 hlx);refine b15 q27 true 7 33 ?_;apply b1j 8;apply b0l 9;refine zdU q27 true 10 36 ?_;apply b06 11;apply b0b (by kernel_rfl);apply k27 _;apply n25 _;apply n24 _ _ (b0a [2,3,20,21,22] _);apply (zk);apply (yV);apply n20 _ (i+1)
     ·apply b1a [2,3,20,21,22] [0,1,2,3,4,5,12,7]
      (try simp only [aQ,fQ]);rw [←hsn];rfl
     ·exact hlt
     ·show _ < _;omega
    ·intro hc0;have hend:i=ws.length:=by omega
     subst hend;apply zn [2,3];apply yR [2];apply (zq3);rw [ql9];exact rta
 ·apply (b35);apply zoc 4 (b49 fl hl);apply zoc 9 (b6z ins hil hin);refine b15 q3 true 10 16 ?_;apply b06 12;apply b0b (by kernel_rfl);apply k3 _;apply n2 _ _ (b0a [0,2,3] _);apply (zk);apply b0e;intros;apply yR [2,3,20,21,22];apply b0g;intros;apply b05 (fun i=>⟨[(2,.ptr 3 0 0),(3,.ptr 7 0 0),(20,sQ rQc ws),(21,.int .i64 ws.length),(22,.int .i64 (Ze i))],[eQ,eQ,eQ,bQ 0 1 2,aQ rQa fl,fQ rQb ins,.arr ((ws.take i).map rQc) (b1w i),bQ 4 5 6],false,39,0⟩) (fun i=>i≤ws.length) (fun i=>ws.length - i) 0
  ·apply b1a [2,3,20,21,22] [0,1,2,3,8,9,10,7];rfl
  ·exact qle _
  ·rintro i hok33 Q33 n33 e33 r33;have hi1:i≤ws.length:=hok33;apply yR [2,3,20,21,22,23];apply b0e;intros;apply b0c _ rfl
   ·intro hc0;have hlt:i < ws.length:=by omega
    obtain ⟨⟨x0,x1⟩,hx⟩:∃x:TW,ws[i]? =some x:=⟨ws[i]'(by omega),qla (by omega)⟩;have hlx:=hwn _ (qlb hx);simp only [] at hlx;have hsn:(ws.take i).map rQc++[V.agg [Zc .i64 x0,V.sl (x1.map (Zc .i64))]]=(ws.take (i+1)).map rQc:=(b2t (f:=rQc) hx).symm;have hti:(ws.take i).length=i:=by rw [qlj];omega
    apply zn [2,3,20,21,22];apply b0e;intro _ n37 _ _;apply b0g;intro _ n38 _ _ _;have F:=fq2 (gdm hx) hti;apply yR [2,3,5,20,21,22];apply b1b (by kernel_rfl);intro _ q40 k40;show b13 _ _ _ _ 12 (Za 12 false) _;refine zdU q40 true 0 26 ?_;refine b00 q40 true 1 27 ?_;refine zdU q40 true 2 28 ?_;refine b00 q40 true 3 29 ?_;refine zdU q40 true 4 30 ?_;refine b00 q40 true 5 31 ?_;apply zoc 6 (b4g x1 hlx);refine b15 q40 true 7 33 ?_;apply b1j 8;apply b0l 9;refine zdU q40 true 10 36 ?_;apply b06 11;apply b0b (by kernel_rfl);apply k40 _;apply n38 _;apply n37 _ _ (b0a [2,3,20,21,22] _);apply (zk);apply (yV);apply n33 _ (i+1)
    ·apply b1a [2,3,20,21,22] [0,1,2,3,4,5,12,7]
     (try simp only [aQ,fQ]);rw [←hsn];rfl
    ·exact hlt
    ·show _ < _;omega
   ·intro hc0;have hend:i=ws.length:=by omega
    subst hend;apply zn [2,3];apply yR [2];apply (zq3);rw [ql9];exact rta
theorem b91:Con prog 44 [kQ fl ins ws] [] (.agg [.ref 0,.ref 1,.ref 2]) [aQ rQa fl,fQ rQb ins,fQ rQc ws]:=by
 have hns:(fl.map rQa).all V.noSl=true:=by rw [qmp,qlk];intro _ _;rfl
 apply zcn [.cell 2 32] [] func44 ntmps44;intro _ _ _;have T:=c2r Y3 Y4 Y9 Y28 Y29 Y30 Y32 Y41 Y48 Y81 Y96 Y98;have F:=Fc.mk True.intro;have F:=Fc.mk hns;apply yR [1,2];apply b0e;intro _ n2 _ _;apply b1b (by kernel_rfl);intro _ q3 k3;show b13 _ _ _ _ 12 (Za 12 false) _;refine zdU q3 true 1 4 ?_;refine b00 q3 true 2 5 ?_;refine zdU q3 false 4 7 ?_;refine zdU q3 false 7 10 ?_;apply b5m 0 5 8 rfl rfl rfl (by kernel_rfl)
 ·apply (b03);apply b5m 3 5 8 rfl rfl rfl (by kernel_rfl)
  ·apply (b2f);refine b00 q3 true 5 8 ?_;refine b00 q3 true 8 11 ?_;apply zoc 6 (b3p ins hil hin);apply zoc 9 (b3w ws hwl hwn);refine b15 q3 true 10 13 ?_;apply b06 11;apply b0b (by kernel_rfl);apply k3 _;apply n2 _ _ (b0a [2] _);apply (zq9);exact rta
  ·apply (b3y);apply b1e 3 8 rfl rfl (by kernel_rfl)
   ·apply (b2f);refine b00 q3 true 8 11 ?_;apply zoc 6 (b3p ins hil hin);apply zoc 9 (b3w ws hwl hwn);refine b15 q3 true 10 13 ?_;apply b06 11;apply b0b (by kernel_rfl);apply k3 _;apply n2 _ _ (b0a [2] _);apply (zq9);exact rta
   ·apply (b3y);apply b0l 3;apply zoc 6 (b3p ins hil hin);apply zoc 9 (b3w ws hwl hwn);refine b15 q3 true 10 13 ?_;apply b06 11;apply b0b (by kernel_rfl);apply k3 _;apply n2 _ _ (b0a [2] _);apply (zq9);exact rta
  ·apply (b3y);apply b1e 3 5 rfl rfl (by kernel_rfl)
   ·apply (b2f);refine b00 q3 true 5 8 ?_;apply zoc 6 (b3p ins hil hin);apply zoc 9 (b3w ws hwl hwn);refine b15 q3 true 10 13 ?_;apply b06 11;apply b0b (by kernel_rfl);apply k3 _;apply n2 _ _ (b0a [2] _);apply (zq9);exact rta
   ·apply (b3y);apply b0l 3;apply zoc 6 (b3p ins hil hin);apply zoc 9 (b3w ws hwl hwn);refine b15 q3 true 10 13 ?_;apply b06 11;apply b0b (by kernel_rfl);apply k3 _;apply n2 _ _ (b0a [2] _);apply (zq9);exact rta
 ·apply (b3y);apply b1e 0 8 rfl rfl (by kernel_rfl)
  ·apply (b03);apply b1e 3 8 rfl rfl (by kernel_rfl)
   ·apply (b2f);refine b00 q3 true 8 11 ?_;apply zoc 6 (b3p ins hil hin);apply zoc 9 (b3w ws hwl hwn);refine b15 q3 true 10 13 ?_;apply b06 11;apply b0b (by kernel_rfl);apply k3 _;apply n2 _ _ (b0a [2] _);apply (zq9);exact rta
   ·apply (b3y);apply b0l 3;apply zoc 6 (b3p ins hil hin);apply zoc 9 (b3w ws hwl hwn);refine b15 q3 true 10 13 ?_;apply b06 11;apply b0b (by kernel_rfl);apply k3 _;apply n2 _ _ (b0a [2] _);apply (zq9);exact rta
  ·apply (b3y);apply b1j 0;apply b0l 3;apply zoc 6 (b3p ins hil hin);apply zoc 9 (b3w ws hwl hwn);refine b15 q3 true 10 13 ?_;apply b06 11;apply b0b (by kernel_rfl);apply k3 _;apply n2 _ _ (b0a [2] _);apply (zq9);exact rta
 ·apply (b3y);apply b1e 0 5 rfl rfl (by kernel_rfl)
  ·apply (b03);apply b1e 3 5 rfl rfl (by kernel_rfl)
   ·apply (b2f);refine b00 q3 true 5 8 ?_;apply zoc 6 (b3p ins hil hin);apply zoc 9 (b3w ws hwl hwn);refine b15 q3 true 10 13 ?_;apply b06 11;apply b0b (by kernel_rfl);apply k3 _;apply n2 _ _ (b0a [2] _);apply (zq9);exact rta
   ·apply (b3y);apply b0l 3;apply zoc 6 (b3p ins hil hin);apply zoc 9 (b3w ws hwl hwn);refine b15 q3 true 10 13 ?_;apply b06 11;apply b0b (by kernel_rfl);apply k3 _;apply n2 _ _ (b0a [2] _);apply (zq9);exact rta
  ·apply (b3y);apply b1j 0;apply b0l 3;apply zoc 6 (b3p ins hil hin);apply zoc 9 (b3w ws hwl hwn);refine b15 q3 true 10 13 ?_;apply b06 11;apply b0b (by kernel_rfl);apply k3 _;apply n2 _ _ (b0a [2] _);apply (zq9);exact rta
end
theorem c6e (fl:List TA) (k:Nat) (x0:ByteArray) (x1:Int) (x2:Int) (x3:Int) (x4:Int) (hl:fl.length≤1048576) (hk:k < fl.length):Con prog 77 [sQ rQa fl,.int .i64 k,.agg [Zf x0,Zc .i64 x1,Zc .i64 x2,Zc .i64 x3,Zc .i64 x4]] [] (.ref 0) [aQ rQa (fl.set k (x0,x1,x2,x3,x4))]:=by
 have hns:(fl.map rQa).all V.noSl=true:=by rw [qmp,qlk];intro a _;rfl
 obtain ⟨y,hy⟩:∃y,fl[k]? =some y:=⟨_,qla hk⟩;have hsm:(fl.map rQa).set k (V.agg [Zf x0,Zc .i64 x1,Zc .i64 x2,Zc .i64 x3,Zc .i64 x4])=(fl.set k (x0,x1,x2,x3,x4)).map rQa:=by have q:=qmx (f:=rQa) (l:=fl) (i:=k) (a:=(x0,x1,x2,x3,x4));exact q.symm
 apply zcn [.tmp 6] [] func77 ntmps77;intro _ _ _;have T:=tq4 Y3 Y9 Y28 Y98;have F:=Fc.mk True.intro;have F:=fq3 hns (gdm hy) hsm;apply yR [0,1,5];apply yR [1,5,7];apply yR [7];apply yR [6];apply (zr);exact b1q rfl rfl rfl
end Go.Proofs.YtmbbjhopngejaaaGreat
