/- What functions compute. No condition. -/
import Derived.Test.YtmbbjhopngejaaaGreatDoorX9
set_option linter.unusedSimpArgs false
set_option linter.unusedVariables false
set_option linter.defProp false
namespace Go.Proofs.YtmbbjhopngejaaaGreatDoor
open Go Go.Vm
set_option maxHeartbeats 8000000
def c04 (x:TI):Bool:=(decide (1≤x.1) && decide (x.1≤999)) && (decide (0≤x.2.1) && decide (x.2.1≤13)) && !decide (12 < (x.2.2.2.length:Int)) && !(x.2.2.1 && decide (0 < (x.2.2.2.length:Int))) && b1v b4t b2x x.2.2.2 0
def b8y (pre:List TI) (x:TI):Bool:=x.2.2.2.any fun s=>pre.any fun y=>inS s y.2.2.2
def c2b (l:List TI) (i:Nat):Bool:=match l[i]? with
  | none=>true
  | some x=>c04 x && (decide (i=0) || match l[i - 1]? with | some y=>decide (y.1 < x.1) | none=>true) && !b8y (l.take i) x
def b8d (l:List TI):Bool:=(List.range l.length).all (c2b l) && decide ((l.length:Int)≤8)
theorem b87 {l:List TI} {i:Nat} (hi:i < l.length) (h:c2b l i=false):b8d l=false:=by
  have:(List.range l.length).all (c2b l)=false:=by
    rw [List.all_eq_false];exact ⟨i,qmb.2 hi,by rw [h];simp⟩
  rw [b8d,this];rfl
theorem d3z {l:List TI} {i:Nat} (hi:l.length≤i) (h:∀j,j < i→c2b l j=true):b8d l=decide ((l.length:Int)≤8):=by
  have:(List.range l.length).all (c2b l)=true:=by
    rw [qlf];intro j hj;exact h j (qmi (qmb.1 hj) hi)
  rw [b8d,this];rfl
theorem b7k {P:Nat→Bool} {i:Nat} (h:∀j,j < i→P j=true) (hi:P i=true):∀j,j < i+1→P j=true:=by
  intro j hj;rcases qmf j i with q | q
  · exact h j q
  · have:j=i:=by omega
    subst this;exact hi
theorem d4r {l:List TI} {x:TI} (h:l[0]? =some x):c2b l 0=(c04 x && !b8y (l.take 0) x):=by
  rw [c2b,h];simp
theorem d3p {l:List TI} {i:Nat} {x y:TI} (h0:0 < i) (hy:l[i - 1]? =some y) (h:l[i]? =some x):c2b l i=(c04 x && decide (y.1 < x.1) && !b8y (l.take i) x):=by
  rw [c2b,h];simp only [hy,decide_eq_false (show ¬i=0 by omega),Bool.false_or]
def b6k (l:List TI) (n:Int):Int:=b3b (fun x:TI=>decide (x.1=n) && !x.2.2.1) 0 l
def b4v (l:List TI) (s:ByteArray):Int:=b3b (fun x:TI=>inS s x.2.2.2) 0 l
theorem d2m (l:List TI) (s:ByteArray):decide (0≤b4v l s)=l.any fun y=>inS s y.2.2.2:=c0u _ l 0
theorem f5l {α β:Type} (f:α→β→Bool) (l:List α) (m:List β):(l.any fun a=>m.any fun b=>f a b)=(m.any fun b=>l.any fun a=>f a b):=by
  rw [Bool.eq_iff_iff];simp only [List.any_eq_true];exact ⟨fun ⟨a,ha,b,hb,h⟩=>⟨b,hb,a,ha,h⟩,fun ⟨b,hb,a,ha,h⟩=>⟨a,ha,b,hb,h⟩⟩
set_option maxRecDepth 8000 in
theorem c2c (x0:Int) (x1:Int) (x2:Bool) (x3:List ByteArray) (hsz:∀s∈x3,s.size≤9223372036854775807) (hnl:x3.length≤1048576):Con Tryz.prog 118 [.agg [V.int .i64 x0,V.int .i64 x1,V.bool x2,V.sl (x3.map V.str)]] [] (.bool (c04 (x0,x1,x2,x3))) []:=by
 refine zcn [.tmp 2] [] Tryz.func118 Tryz.ntmps118 ⟨?_⟩;intro Q0 n0 r0;have T:=tq5 Ty.t3 Ty.t4 Ty.t9 Ty.t32 Ty.t55;have F:=Fc.mk True.intro;refine yR [1] ⟨?_⟩;refine b0e ?_;intros;refine d2w [1,30] (b4d _ _ _) (b4d _ _ _) ⟨?_⟩;refine b0a _ rfl ?_ ?_
 ·intro hc0;have hh:c04 (x0,x1,x2,x3)=false:=by
   cases hq:c04 (x0,x1,x2,x3) with
   |false=>rfl
   |true=>
    exfalso;have hq2:(((decide (1≤x0) && decide (x0≤999)) && (decide (0≤x1) && decide (x1≤13)) && !decide (12 < (x3.length:Int)) && !(x2 && decide (0 < (x3.length:Int)))) && b1v b4t b2x x3 0)=true:=hq;rw [qld] at hq2;have hq3:=hq2.1;generalize (x3.length:Int)=m at hc0 hq3;clear hq hq2;cases x2<;>simp at hc0 hq3<;>omega
  refine yR [2] ⟨?_⟩;refine zr ⟨?_⟩;rw [hh];exact b0g rfl rfl (.inl rfl)
 ·intro hc0;have hh:c04 (x0,x1,x2,x3)=b1v b4t b2x x3 0:=by
   have hb:((decide (1≤x0) && decide (x0≤999)) && (decide (0≤x1) && decide (x1≤13)) && !decide (12 < (x3.length:Int)) && !(x2 && decide (0 < (x3.length:Int))))=true:=by
    generalize (x3.length:Int)=m at hc0⊢;cases x2<;>simp at hc0⊢<;>omega
   show (((decide (1≤x0) && decide (x0≤999)) && (decide (0≤x1) && decide (x1≤13)) && !decide (12 < (x3.length:Int)) && !(x2 && decide (0 < (x3.length:Int)))) && b1v b4t b2x x3 0)=_;rw [hb];rfl
  refine zn [1] ⟨?_⟩;refine b0e ?_;intros;refine yR [1,32,33,34] ⟨?_⟩;refine b0i ?_;intros;refine b08 (fun i=>⟨[(1,.ptr 0 0 0),(32,.sl (x3.map V.str)),(33,.int .i64 x3.length),(34,.int .i64 (Nat.cast i))],[.box (.agg [V.int .i64 x0,V.int .i64 x1,V.bool x2,V.sl (x3.map V.str)]) .shal],false,57,0⟩) (fun i=>i≤x3.length∧b1v b4t b2x x3 i=b1v b4t b2x x3 0) (fun i=>x3.length - i) 0 ?_ ?_ ?_
  ·refine b0d [1,32,33,34] [0] ⟨?_⟩;rfl
  ·exact ⟨qle _,rfl⟩
  ·rintro i hok9 Q9 n9 e9 r9;obtain ⟨hi1,hR⟩:=hok9;refine yR [1,32,33,34,35] ⟨?_⟩;refine b0e ?_;intros;refine b0a _ rfl ?_ ?_
   ·intro hc1;have hlt:i < x3.length:=by omega
    obtain ⟨s,hx⟩:∃s,x3[i]? =some s:=⟨_,qla hlt⟩;have hsx:=hsz s (qlb hx);rcases ql8 i with h0 | h0
    ·skip;have hi0:¬((0:Int) < (i:Int)):=by omega
     have hst:b1v b4t b2x x3 i=(b4t s && b1v b4t b2x x3 (i+1)):=by subst h0;exact b7y hx
     refine zn [1,32,33,34] ⟨?_⟩;refine b0e ?_;intros;refine b0i ?_;intros;have F:=fq4 (gdm hx) hi0 @decide_false @qmh;refine yR [1,3,4,32,33,34] ⟨?_⟩;refine yRc [1,32,33,34,55] (c1y s hsx) ⟨?_⟩;refine b0a _ rfl ?_ ?_
     ·intro hc2;refine yR [2] ⟨?_⟩;refine zr ⟨?_⟩;rw [hh];exact b0g rfl (by rw [←hR,hst];(try simp at hc2);first | (simp [hc2];done) | (rcases hc2 with h | h<;>simp [h];done) | (simp_all;done)) (.inl rfl)
     ·intro hc2;refine zn [1,32,33,34] ⟨?_⟩;refine yV ⟨?_⟩;refine n9 _ (i+1) ?_ ?_ ?_
      ·refine b0d [1,32,33,34] [0] ⟨?_⟩;rfl
      ·exact ⟨by omega,by rw [←hR,hst];(try simp at hc2);first | (simp [hc2];done) | (simp_all;done)⟩
      ·show _ < _;omega
    ·skip;obtain ⟨y,hy⟩:∃y,x3[i - 1]? =some y:=⟨_,qla (by omega)⟩;have hi0:(0:Int) < i:=by omega
     have hk:((i:Int) - 1).toNat=i - 1:=by omega
     have hst:=b76 (ok:=b4t) (bf:=b2x) h0 hy hx;refine zn [1,32,33,34] ⟨?_⟩;refine b0e ?_;intros;refine b0i ?_;intros;have F:=fq6 (gdm hx) hi0 hk (gdm hy) @decide_true @qmm;refine yR [1,3,4,32,33,34] ⟨?_⟩;refine yRc [1,32,33,34,55] (c1y s hsx) ⟨?_⟩;refine b0a _ rfl ?_ ?_
     ·intro hc2;refine yR [2] ⟨?_⟩;refine zr ⟨?_⟩;rw [hh];exact b0g rfl (by rw [←hR,hst];(try simp at hc2);first | (simp [hc2];done) | (rcases hc2 with h | h<;>simp [h];done) | (simp_all;done)) (.inl rfl)
     ·intro hc2;refine zn [1,32,33,34] ⟨?_⟩;refine yV ⟨?_⟩;refine n9 _ (i+1) ?_ ?_ ?_
      ·refine b0d [1,32,33,34] [0] ⟨?_⟩;rfl
      ·exact ⟨by omega,by rw [←hR,hst];(try simp at hc2);first | (simp [hc2];done) | (simp_all;done)⟩
      ·show _ < _;omega
   ·intro hc1;refine zn [] ⟨?_⟩;refine yR [2] ⟨?_⟩;refine zr ⟨?_⟩;rw [hh];exact b0g rfl (by rw [←hR,b9f (by omega)]) (.inl rfl)
set_option maxRecDepth 8000 in
theorem d4x (x0:Int) (x1:Int) (x2:Bool) (x3:List ByteArray) (hsz:∀s∈x3,s.size≤9223372036854775807) (hnl:x3.length≤1048576):Con Tryz.prog 122 [.agg [V.int .i64 x0,V.int .i64 x1,V.bool x2,V.sl (x3.map V.str)]] [] (.bool (c04 (x0,x1,x2,x3))) []:=by
 have hcs:=d63 (ok:=b4t) (bf:=b2x) (l:=x3);refine zcn [.tmp 2] [] Tryz.func122 Tryz.ntmps122 ⟨?_⟩;intro Q0 n0 r0;have T:=tq5 Ty.t3 Ty.t4 Ty.t9 Ty.t32 Ty.t55;have F:=Fc.mk True.intro;refine yR [1] ⟨?_⟩;refine b0e ?_;intros;refine b1l [1,36] ?_;intro K3 k3;refine f0s ⟨?_⟩;refine zc (b2w _ _ _) ⟨?_⟩;refine f4l ⟨?_⟩;refine b15 ⟨?_⟩;refine zq4 ⟨?_⟩;refine zgc (c5b _) ⟨?_⟩;refine d3r ⟨?_⟩;refine zq9 ⟨?_⟩;refine f5h ⟨?_⟩;refine c2q ⟨?_⟩;refine zq9 ⟨?_⟩;refine b82 ⟨?_⟩;refine zq4 ⟨?_⟩;refine f5h ⟨?_⟩;refine c2q ⟨?_⟩;refine f13 ⟨?_⟩;refine zq9 ⟨?_⟩;refine zgc (d6h x3 hnl) ⟨?_⟩;refine d3r ⟨?_⟩;refine b6g ?_;intro K k;simp only [zE,zP,b0w,b0s,b0k,Nat.reduceEqDiff,reduceIte,Nat.reduceLT,implies_true,forall_const,reduceCtorEq,V.ofValue,V.ofScalar,V.un,V.gd,b07,aop,d4g];repeat (refine ai (by first | (intro h;rw [h];rfl) | omega | (intros;simp_all;done)) ?_)
 refine k _ ?_;clear k K;refine k3 _ ?_;refine zk ⟨?_⟩;refine b0a _ rfl ?_ ?_
 ·intro hc0;have hh:c04 (x0,x1,x2,x3)=false:=by
   cases hq:c04 (x0,x1,x2,x3) with
   |false=>rfl
   |true=>
    exfalso;have hq2:(((decide (1≤x0) && decide (x0≤999)) && (decide (0≤x1) && decide (x1≤13)) && !decide (12 < (x3.length:Int)) && !(x2 && decide (0 < (x3.length:Int)))) && b1v b4t b2x x3 0)=true:=hq;rw [qld] at hq2;have hq3:=hq2.1;have hq4:b1v (fun _:ByteArray=>true) b2x x3 0=true:=by have q:=hq2.2;rw [hcs,qld] at q;exact q.1
    rw [hq4] at hc0;generalize (x3.length:Int)=m at hc0 hq3;clear hq hq2 hq4;cases x2<;>simp at hc0 hq3<;>omega
  refine yR [2] ⟨?_⟩;refine zr ⟨?_⟩;rw [hh];exact b0g rfl rfl (.inl rfl)
 ·intro hc0;have hb2:b1v (fun _:ByteArray=>true) b2x x3 0=true:=by
   cases q:b1v (fun _:ByteArray=>true) b2x x3 0 with
   |true=>rfl
   |false=>(rw [q] at hc0;simp at hc0)
  have hh:c04 (x0,x1,x2,x3)=x3.all b4t:=by
   have hb:((decide (1≤x0) && decide (x0≤999)) && (decide (0≤x1) && decide (x1≤13)) && !decide (12 < (x3.length:Int)) && !(x2 && decide (0 < (x3.length:Int))))=true:=by
    rw [hb2] at hc0;generalize (x3.length:Int)=m at hc0⊢;cases x2<;>simp at hc0⊢<;>omega
   show (((decide (1≤x0) && decide (x0≤999)) && (decide (0≤x1) && decide (x1≤13)) && !decide (12 < (x3.length:Int)) && !(x2 && decide (0 < (x3.length:Int)))) && b1v b4t b2x x3 0)=_;rw [hb,hcs,hb2];rfl
  refine zn [1] ⟨?_⟩;refine b0e ?_;intros;refine yR [38,39,40] ⟨?_⟩;refine b0i ?_;intros;refine b08 (fun i=>⟨[(38,.sl (x3.map V.str)),(39,.int .i64 x3.length),(40,.int .i64 (Nat.cast i))],[],false,48,0⟩) (fun i=>i≤x3.length∧(x3.drop i).all b4t=x3.all b4t) (fun i=>x3.length - i) 0 ?_ ?_ ?_
  ·refine b0d [38,39,40] [] ⟨?_⟩;rfl
  ·exact ⟨qle _,rfl⟩
  ·rintro i hok9 Q9 n9 e9 r9;obtain ⟨hi1,hR⟩:=hok9;refine yR [38,39,40,41] ⟨?_⟩;refine b0e ?_;intros;refine b0a _ rfl ?_ ?_
   ·intro hc1;have hlt:i < x3.length:=by omega
    obtain ⟨s,hx⟩:∃s,x3[i]? =some s:=⟨_,qla hlt⟩;have hsx:=hsz s (qlb hx);have hst:=b65 (p:=b4t) hx;refine zn [38,39,40] ⟨?_⟩;refine b0e ?_;intros;refine b0i ?_;intros;have F:=Fc.mk (gdm hx);refine yR [4,38,39,40] ⟨?_⟩;refine yRc [38,39,40,46] (c4k s hsx) ⟨?_⟩;refine b0a _ rfl ?_ ?_
    ·intro hc2;refine yR [2] ⟨?_⟩;refine zr ⟨?_⟩;rw [hh];exact b0g rfl (by rw [←hR,hst];simp [hc2]) (.inl rfl)
    ·intro hc2;refine zn [38,39,40] ⟨?_⟩;refine yV ⟨?_⟩;refine n9 _ (i+1) ?_ ?_ ?_
     ·refine b0d [38,39,40] [] ⟨?_⟩;rfl
     ·exact ⟨by omega,by rw [←hR,hst];simp [hc2]⟩
     ·show _ < _;omega
   ·intro hc1;refine zn [] ⟨?_⟩;refine yR [2] ⟨?_⟩;refine zr ⟨?_⟩;rw [hh];exact b0g rfl (by rw [←hR,b9c (by omega)]) (.inl rfl)
theorem d61 (x0:Int) (x1:Int) (x2:Bool) (x3:List ByteArray) (n:Int):Con Tryz.prog 143 [.agg [V.int .i64 x0,V.int .i64 x1,V.bool x2,V.sl (x3.map V.str)],.pv [.int .i64 n] 0 0] [] (.bool (decide (x0=n) && !x2)) []:=by
 refine zcn [.tmp 3] [] Tryz.func143 Tryz.ntmps143 ⟨?_⟩;intro Q0 n0 r0;have T:=tq5 Ty.t3 Ty.t4 Ty.t9 Ty.t32 Ty.t55;have F:=Fc.mk True.intro;refine yR [1,2] ⟨?_⟩;refine yR [3] ⟨?_⟩;refine zr ⟨?_⟩;exact b0g rfl (by first | rfl | simp) (.inl rfl)
theorem c1z (l:List TI) (n:Int) (hl:l.length≤1048576):Con Tryz.prog 97 [sQ rQb l,.int .i64 n] [] (.int .i64 (b6k l n)) []:=by
 refine zcn [.tmp 4] [] Tryz.func97 Tryz.ntmps97 ⟨?_⟩;intro Q0 n0 r0;have T:=tq6 Ty.t3 Ty.t4 Ty.t9 Ty.t28 Ty.t32 Ty.t55;have F:=Fc.mk True.intro;refine yR [0,3] ⟨?_⟩;refine yRc [4] (b7b l _ _ (fun x=>decide (x.1=n) && !x.2.2.1) hl (.pv _ .nil) (fun x0 x1 x2 x3 _=>d61 x0 x1 x2 x3 n)) ⟨?_⟩;refine zr ⟨?_⟩;exact b0g rfl rfl (.inl rfl)
theorem c6m (x0:Int) (x1:Int) (x2:Bool) (x3:List ByteArray) (s:ByteArray) (hlx:x3.length≤1048576):Con Tryz.prog 120 [.agg [V.int .i64 x0,V.int .i64 x1,V.bool x2,V.sl (x3.map V.str)],.pv [.str s] 0 0] [] (.bool (inS s x3)) []:=by
 refine zcn [.tmp 3] [] Tryz.func120 Tryz.ntmps120 ⟨?_⟩;intro Q0 n0 r0;have T:=tq5 Ty.t3 Ty.t4 Ty.t9 Ty.t32 Ty.t55;have F:=Fc.mk True.intro;refine yR [1,2] ⟨?_⟩;refine yRc [3] (c7t x3 s hlx) ⟨?_⟩;refine zr ⟨?_⟩;exact b0g rfl rfl (.inl rfl)
theorem b37 (l:List TI) (s:ByteArray) (hl:l.length≤1048576) (hli:∀x∈l,x.2.2.2.length≤1048576):Con Tryz.prog 57 [sQ rQb l,.str s] [] (.int .i64 (b4v l s)) []:=by
 refine zcn [.tmp 4] [] Tryz.func57 Tryz.ntmps57 ⟨?_⟩;intro Q0 n0 r0;have T:=tq6 Ty.t3 Ty.t4 Ty.t9 Ty.t28 Ty.t32 Ty.t55;have F:=Fc.mk True.intro;refine yR [0,3] ⟨?_⟩;refine yRc [4] (b7b l _ _ (fun x=>inS s x.2.2.2) hl (.pv _ .nil) (fun x0 x1 x2 x3 hm=>c6m x0 x1 x2 x3 s (hli _ hm))) ⟨?_⟩;refine zr ⟨?_⟩;exact b0g rfl rfl (.inl rfl)
theorem d0l (l:List TI) (n:Int) (hl:l.length≤1048576):Con Tryz.prog 107 [sQ rQb l,.int .i64 n] [] (.int .i64 (b6k l n)) []:=by
 refine zcn [.tmp 4] [] Tryz.func107 Tryz.ntmps107 ⟨?_⟩;intro Q0 n0 r0;have T:=tq6 Ty.t3 Ty.t4 Ty.t9 Ty.t28 Ty.t32 Ty.t55;have F:=Fc.mk True.intro;refine yR [0,1] ⟨?_⟩;refine b0e ?_;intros;refine yR [1,7,8,9] ⟨?_⟩;refine b0i ?_;intros;refine b08 (fun i=>⟨[(1,.int .i64 n),(7,sQ rQb l),(8,.int .i64 l.length),(9,.int .i64 (Nat.cast i))],[],false,25,0⟩) (fun i=>i≤l.length∧b3b (fun x:TI=>decide (x.1=n) && !x.2.2.1) i (l.drop i)=b3b (fun x:TI=>decide (x.1=n) && !x.2.2.1) 0 l) (fun i=>l.length - i) 0 ?_ ?_ ?_
 ·refine b2a [1,7,8,9] ?_;simp only [b02,b0n,b0l,b0j,b0u,Nat.reduceEqDiff,reduceIte];rfl
 ·exact ⟨qle _,rfl⟩
 ·rintro i hok5 Q5 n5 e5 r5;obtain ⟨hi1,hR⟩:=hok5;refine yR [1,7,8,9,10] ⟨?_⟩;refine b0e ?_;intros;refine b0a _ rfl ?_ ?_
  ·intro hc0;have hlt:i < l.length:=by omega
   obtain ⟨⟨x0,x1,x2,x3⟩,hx⟩:∃x:TI,l[i]? =some x:=⟨l[i]'(by omega),qla (by omega)⟩;have hst:=b50 (p:=fun x:TI=>decide (x.1=n) && !x.2.2.1) hx;refine zn [1,7,8,9] ⟨?_⟩;refine b0e ?_;intros;refine b0i ?_;intros;have F:=Fc.mk (gdm hx);refine yR [1,5,6,7,8,9] ⟨?_⟩;refine yR [1,5,7,8,9,22] ⟨?_⟩;refine b0a _ rfl ?_ ?_
   ·intro hc1;refine yR [4] ⟨?_⟩;refine zr ⟨?_⟩;exact b0g rfl (by rw [b6k,←hR,hst,if_pos (by simpa using hc1)]) (.inl rfl)
   ·intro hc1;refine zn [1,7,8,9] ⟨?_⟩;refine yV ⟨?_⟩;refine n5 _ (i+1) ?_ ?_ ?_
    ·refine b0d [1,7,8,9] [] ⟨?_⟩;rfl
    ·exact ⟨by omega,by rw [←hR,hst,if_neg (by simpa using hc1)]⟩
    ·show _ < _;omega
  ·intro hc0;refine zn [] ⟨?_⟩;refine yR [4] ⟨?_⟩;refine zr ⟨?_⟩;exact b0g rfl (by rw [b6k,←hR,b7h (by omega)]) (.inl rfl)
theorem c34 (l:List TI) (s:ByteArray) (hl:l.length≤1048576) (hli:∀x∈l,x.2.2.2.length≤1048576):Con Tryz.prog 61 [sQ rQb l,.str s] [] (.int .i64 (b4v l s)) []:=by
 refine zcn [.tmp 4] [] Tryz.func61 Tryz.ntmps61 ⟨?_⟩;intro Q0 n0 r0;have T:=tq6 Ty.t3 Ty.t4 Ty.t9 Ty.t28 Ty.t32 Ty.t55;have F:=Fc.mk True.intro;refine yR [0,1] ⟨?_⟩;refine b0e ?_;intros;refine yR [1,7,8,9] ⟨?_⟩;refine b0i ?_;intros;refine b08 (fun i=>⟨[(1,.str s),(7,sQ rQb l),(8,.int .i64 l.length),(9,.int .i64 (Nat.cast i))],[],false,20,0⟩) (fun i=>i≤l.length∧b3b (fun x:TI=>inS s x.2.2.2) i (l.drop i)=b3b (fun x:TI=>inS s x.2.2.2) 0 l) (fun i=>l.length - i) 0 ?_ ?_ ?_
 ·refine b2a [1,7,8,9] ?_;simp only [b02,b0n,b0l,b0j,b0u,Nat.reduceEqDiff,reduceIte];rfl
 ·exact ⟨qle _,rfl⟩
 ·rintro i hok5 Q5 n5 e5 r5;obtain ⟨hi1,hR⟩:=hok5;refine yR [1,7,8,9,10] ⟨?_⟩;refine b0e ?_;intros;refine b0a _ rfl ?_ ?_
  ·intro hc0;have hlt:i < l.length:=by omega
   obtain ⟨⟨x0,x1,x2,x3⟩,hx⟩:∃x:TI,l[i]? =some x:=⟨l[i]'(by omega),qla (by omega)⟩;have hlx:=hli _ (qlb hx);simp only [] at hlx;have hst:=b50 (p:=fun x:TI=>inS s x.2.2.2) hx;refine zn [1,7,8,9] ⟨?_⟩;refine b0e ?_;intros;refine b0i ?_;intros;have F:=Fc.mk (gdm hx);refine yR [1,5,6,7,8,9] ⟨?_⟩;refine yRc [1,5,7,8,9,17] (c8h x3 s hlx) ⟨?_⟩;refine b0a _ rfl ?_ ?_
   ·intro hc1;refine yR [4] ⟨?_⟩;refine zr ⟨?_⟩;exact b0g rfl (by rw [b4v,←hR,hst,if_pos hc1]) (.inl rfl)
   ·intro hc1;refine zn [1,7,8,9] ⟨?_⟩;refine yV ⟨?_⟩;refine n5 _ (i+1) ?_ ?_ ?_
    ·refine b0d [1,7,8,9] [] ⟨?_⟩;rfl
    ·exact ⟨by omega,by rw [←hR,hst,if_neg (by simp [hc1])]⟩
    ·show _ < _;omega
  ·intro hc0;refine zn [] ⟨?_⟩;refine yR [4] ⟨?_⟩;refine zr ⟨?_⟩;exact b0g rfl (by rw [b4v,←hR,b7h (by omega)]) (.inl rfl)
end Go.Proofs.YtmbbjhopngejaaaGreatDoor
