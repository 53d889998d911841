/- What functions compute. No condition. -/
import Derived.Test.YtmbbjhopngejaaaGreatX18
set_option linter.all false
open Go.Vm.V renaming int → Za, bool → Zg, agg → Zj, nsl → Zk
open List renaming set_cons_zero → Zb, set_cons_succ → Zc, length_nil → Zd, map_nil → Zh
open Bool renaming and_assoc → Ze, and_eq_true → Zf
open Nat renaming cast → Zi
namespace Go.Proofs.YtmbbjhopngejaaaGreat
open Go Go.Vm
set_option maxHeartbeats 8000000
def c7t (x:(Int×Int×Int×Int×Int×Int×List Int)):Bool:=inR x.1 0 x.2.1 && decide (x.2.1≤5) && inR x.2.2.1 0 x.2.2.2.1 && decide (x.2.2.2.1≤3) && inR x.2.2.2.2.1 0 x.2.2.2.2.2.1 && decide (x.2.2.2.2.2.1≤23) && c3t x.2.2.2.2.2.2
def c3e (x:(Int×Int×Int×Int×Int×Int×List Int)) (a b c:Int):Bool:=inR a x.1 x.2.1 && inR b x.2.2.1 x.2.2.2.1 && inR c x.2.2.2.2.1 x.2.2.2.2.2.1
def c04 (l:List (Int×Int×Int×Int×Int×Int×List Int)):Bool:=l.all c7t && decide ((l.length:Int)≤10)
def d4n (a b c:Int):Bool:=inR a 0 5 && inR b 0 3 && inR c 0 23
def d29 (l:List (Int×Int×Int×Int×Int×Int×List Int)) (a b c:Int):Int:=b2r (fun x:(Int×Int×Int×Int×Int×Int×List Int)=>c3e x a b c) 0 l
def nfL (l:List (Int×Int×Int×Int×Int×Int×List Int)) (a b c:Int):List Int:=match l[(d29 l a b c).toNat]? with | some x=>x.2.2.2.2.2.2 | none=>[]
def nfB (l:List (Int×Int×Int×Int×Int×Int×List Int)) (a b c:Int):Bool:=c04 l && d4n a b c && decide (0≤d29 l a b c)
section
variable {l:List (Int×Int×Int×Int×Int×Int×List Int)} {a b c:Int}
theorem d68 (h:0≤d29 l a b c):∃(k:Nat) (x:(Int×Int×Int×Int×Int×Int×List Int)),l[k]? =some x∧d29 l a b c=(k:Int)∧nfL l a b c=x.2.2.2.2.2.2:=by
  obtain ⟨k,x,h1,_,h3⟩:=c9t h;have h4:d29 l a b c=(k:Int):=h3;refine ⟨k,x,h1,h4,?_⟩;rw [nfL,h4,qlh,h1]
theorem f0a (ht:c04 l=true) (h:0≤d29 l a b c):(nfL l a b c).length=4∧∀v∈nfL l a b c,0≤v∧v≤6:=by
  obtain ⟨k,x,h1,_,h3⟩:=d68 h;rw [c04,qlg,qlk] at ht;have q:=ht.1 x (qlb h1);rw [c7t,qlg] at q;rw [h3];exact b5i q.2
end
set_option maxRecDepth 8000 in
theorem f3a (x0:Int) (x1:Int) (x2:Int) (x3:Int) (x4:Int) (x5:Int) (x6:List Int) (hlx:x6.length≤1048576):Con Tryz.prog 87 [.agg [Za .i64 x0,Za .i64 x1,Za .i64 x2,Za .i64 x3,Za .i64 x4,Za .i64 x5,V.sl (x6.map (Za .i64))]] [] (.bool (c7t (x0,x1,x2,x3,x4,x5,x6))) []:=by
 apply zcn [.tmp 2] [] Tryz.func87 Tryz.ntmps87;intro _ _ _;have T:=tq4 Y3 Y4 Y41 Y93;have F:=Fc.mk True.intro;apply yR [1];apply b1l [2];intro _ k2;apply (g4b);apply (g4b);apply zc (b2p _ _ _);apply (zq4);apply (c0e);apply (b5q);apply (zq6);apply (g4i);apply zgc (b2p _ _ _);apply (zq6);apply (b5q);apply (zq6);apply (g4i);apply zgc (b2p _ _ _);apply (zq6);apply (b5q);apply (zq6);apply zgc (b97 x6 hlx);apply (c74);apply (b2h);apply k2 _;apply (zq1);exact b0h rfl (by simp [c7t,inR,Ze]) (.inl rfl)
set_option maxRecDepth 8000 in
theorem f5i (x0:Int) (x1:Int) (x2:Int) (x3:Int) (x4:Int) (x5:Int) (x6:List Int) (hlx:x6.length≤1048576):Con Tryz.prog 113 [.agg [Za .i64 x0,Za .i64 x1,Za .i64 x2,Za .i64 x3,Za .i64 x4,Za .i64 x5,V.sl (x6.map (Za .i64))]] [] (.bool (c7t (x0,x1,x2,x3,x4,x5,x6))) []:=by
 apply zcn [.tmp 2] [] Tryz.func113 Tryz.ntmps113;intro _ _ _;have T:=tq4 Y3 Y4 Y41 Y93;have F:=Fc.mk True.intro;apply yR [1];apply b1l [2];intro _ k2;apply (g4b);apply zc (b21 _ _ _);apply (zq4);apply (c0e);apply (g4i);apply zgc (b21 _ _ _);apply (zq6);apply zgc (b21 _ _ _);apply (zq6);apply (g4i);apply zgc (b21 _ _ _);apply (zq6);apply zgc (b21 _ _ _);apply (zq6);apply (g4i);apply zgc (b21 _ _ _);apply (zq6);apply zgc (d1m x6 hlx);apply (c74);apply (b2h);apply k2 _;apply (zq1);exact b0h rfl (congrArg Zg (by rw [Bool.eq_iff_iff];simp only [c7t,inR,Zf,decide_eq_true_eq];generalize c3t x6=t;cases t<;>simp<;>omega)) (.inl rfl)
set_option maxRecDepth 8000 in
theorem d8b (l:List (Int×Int×Int×Int×Int×Int×List Int)) (hl:l.length≤1048576) (hls:∀t∈l,t.2.2.2.2.2.2.length≤1048576):Con Tryz.prog 32 [sQ rQf l] [] (.bool (c04 l)) []:=by
 apply zcn [.tmp 2] [] Tryz.func32 Tryz.ntmps32;intro _ _ _;have T:=tq5 Y3 Y4 Y27 Y41 Y93;have F:=Fc.mk True.intro;apply yR [0];apply b0e;intros;apply yR [0,5,6,7];apply b0g;intro _ _ x4 _ _;apply b05 (fun i=>⟨[(0,sQ rQf l),(5,sQ rQf l),(6,.int .i64 l.length),(7,.int .i64 (Zi i))],[],false,18,0⟩) (fun i=>i≤l.length∧(l.drop i).all c7t=l.all c7t) (fun i=>l.length - i) 0
 ·refine b18 [0,5,6,7] ?_;simp only [b0r,b0k,b0i,b0f,b0n,Nat.reduceEqDiff,reduceIte];rfl
 ·exact ⟨qle _,rfl⟩
 ·rintro i hok5 Q5 n5 e5 r5;obtain ⟨hi1,hR⟩:=hok5;apply yR [0,5,6,7,8];apply b0e;intros;apply b0c _ rfl
  ·intro hc0;have hlt:i < l.length:=by omega
   obtain ⟨⟨x0,x1,x2,x3,x4,x5,x6⟩,hx⟩:∃x:Int×Int×Int×Int×Int×Int×List Int,l[i]? =some x:=⟨l[i]'(by omega),qla (by omega)⟩;have hlx:=hls _ (qlb hx);simp only [] at hlx;have hst:=b6h (p:=c7t) hx;apply zn [0,5,6,7];apply b0e;intros;apply b0g;intros;have F:=Fc.mk (gdm hx);apply yR [0,4,5,6,7];apply yRc [0,5,6,7,13] (f3a x0 x1 x2 x3 x4 x5 x6 hlx);apply b0c _ rfl
   ·intro hc1;apply yR [2];apply (zr);exact b0h rfl (by rw [c04,←hR,hst,hc1];simp) (.inl rfl)
   ·intro hc1;apply zn [0,5,6,7];apply (yV);apply n5 _ (i+1)
    ·apply b0d [0,5,6,7] [];rfl
    ·exact ⟨hlt,by rw [←hR,hst,hc1];simp⟩
    ·show _ < _;omega
  ·intro hc0;apply zn [0];apply yR [2];apply (zr);exact b0h rfl (by rw [c04,←hR,b8o (by omega)];simp) (.inl rfl)
set_option maxRecDepth 8000 in
theorem f0b (l:List (Int×Int×Int×Int×Int×Int×List Int)) (hl:l.length≤1048576) (hls:∀t∈l,t.2.2.2.2.2.2.length≤1048576):Con Tryz.prog 50 [sQ rQf l] [] (.bool (c04 l)) []:=by
 apply zcn [.tmp 2] [] Tryz.func50 Tryz.ntmps50;intro _ _ _;have T:=tq5 Y3 Y4 Y27 Y41 Y93;have F:=Fc.mk True.intro;apply yR [0];apply b0e;intros;apply yR [0,5,6,7];apply b0g;intro _ _ x4 _ _;apply b05 (fun i=>⟨[(0,sQ rQf l),(5,sQ rQf l),(6,.int .i64 l.length),(7,.int .i64 (Zi i))],[],false,18,0⟩) (fun i=>i≤l.length∧(l.drop i).all c7t=l.all c7t) (fun i=>l.length - i) 0
 ·refine b18 [0,5,6,7] ?_;simp only [b0r,b0k,b0i,b0f,b0n,Nat.reduceEqDiff,reduceIte];rfl
 ·exact ⟨qle _,rfl⟩
 ·rintro i hok5 Q5 n5 e5 r5;obtain ⟨hi1,hR⟩:=hok5;apply yR [0,5,6,7,8];apply b0e;intros;apply b0c _ rfl
  ·intro hc0;have hlt:i < l.length:=by omega
   obtain ⟨⟨x0,x1,x2,x3,x4,x5,x6⟩,hx⟩:∃x:Int×Int×Int×Int×Int×Int×List Int,l[i]? =some x:=⟨l[i]'(by omega),qla (by omega)⟩;have hlx:=hls _ (qlb hx);simp only [] at hlx;have hst:=b6h (p:=c7t) hx;apply zn [0,5,6,7];apply b0e;intros;apply b0g;intros;have F:=Fc.mk (gdm hx);apply yR [0,4,5,6,7];apply yRc [0,5,6,7,13] (f5i x0 x1 x2 x3 x4 x5 x6 hlx);apply b0c _ rfl
   ·intro hc1;apply yR [2];apply (zr);exact b0h rfl (by rw [c04,←hR,hst,hc1];simp) (.inl rfl)
   ·intro hc1;apply zn [0,5,6,7];apply (yV);apply n5 _ (i+1)
    ·apply b0d [0,5,6,7] [];rfl
    ·exact ⟨hlt,by rw [←hR,hst,hc1];simp⟩
    ·show _ < _;omega
  ·intro hc0;apply zn [0];apply yR [2];apply (zr);exact b0h rfl (by rw [c04,←hR,b8o (by omega)];simp) (.inl rfl)
theorem f1q (a b c:Int):Con Tryz.prog 35 [.agg [.int .i64 a,.int .i64 b,.int .i64 c]] [] (.bool (d4n a b c)) []:=by
 apply zcn [.tmp 2] [] Tryz.func35 Tryz.ntmps35;intro _ _ _;have T:=tq3 Y3 Y4 Y34;have F:=Fc.mk True.intro;apply yR [1];apply c5h [2] (b2p _ _ _) (b2p _ _ _) (b2p _ _ _);apply (zr);exact b0h rfl (by simp [d4n,inR,Ze]) (.inl rfl)
theorem f0i (a b c:Int):Con Tryz.prog 51 [.agg [.int .i64 a,.int .i64 b,.int .i64 c]] [] (.bool (d4n a b c)) []:=by
 apply zcn [.tmp 2] [] Tryz.func51 Tryz.ntmps51;intro _ _ _;have T:=tq3 Y3 Y4 Y34;have F:=Fc.mk True.intro;apply yR [1];apply c5h [2] (b21 _ _ _) (b21 _ _ _) (b21 _ _ _);apply (zr);exact b0h rfl (by simp [d4n,inR,Ze]) (.inl rfl)
set_option maxRecDepth 8000 in
theorem d7t (x0:Int) (x1:Int) (x2:Int) (x3:Int) (x4:Int) (x5:Int) (x6:List Int) (a b c:Int):Con Tryz.prog 138 [.agg [Za .i64 x0,Za .i64 x1,Za .i64 x2,Za .i64 x3,Za .i64 x4,Za .i64 x5,V.sl (x6.map (Za .i64))],.agg [.int .i64 a,.int .i64 b,.int .i64 c]] [] (.bool (c3e (x0,x1,x2,x3,x4,x5,x6) a b c)) []:=by
 apply zcn [.tmp 4] [] Tryz.func138 Tryz.ntmps138;intro _ _ _;have T:=tq5 Y3 Y4 Y34 Y41 Y93;have F:=Fc.mk True.intro;apply yR [2,3];apply c5h [4] (b2p _ _ _) (b2p _ _ _) (b2p _ _ _);apply (zr);exact b0h rfl (by simp [c3e,inR,Ze]) (.inl rfl)
set_option maxRecDepth 8000 in
section
variable (x0:Int) (x1:Int) (x2:Int) (x3:Int) (x4:Int) (x5:Int) (x6:List Int) (a b c:Int)
include x0 x1 x2 x3 x4 x5 x6 a b c
theorem d25:Con Tryz.prog 114 [.agg [Za .i64 x0,Za .i64 x1,Za .i64 x2,Za .i64 x3,Za .i64 x4,Za .i64 x5,V.sl (x6.map (Za .i64))],.agg [.int .i64 a,.int .i64 b,.int .i64 c]] [] (.bool (c3e (x0,x1,x2,x3,x4,x5,x6) a b c)) []:=by
 apply zcn [.tmp 4] [] Tryz.func114 Tryz.ntmps114;intro _ _ _;have T:=tq5 Y3 Y4 Y34 Y41 Y93;have F:=Fc.mk True.intro;apply yR [2,3];apply c5h [4] (b21 _ _ _) (b21 _ _ _) (b21 _ _ _);apply (zr);exact b0h rfl (by simp [c3e,inR,Ze]) (.inl rfl)
theorem d7s:Con Tryz.prog 137 [.agg [Za .i64 x0,Za .i64 x1,Za .i64 x2,Za .i64 x3,Za .i64 x4,Za .i64 x5,V.sl (x6.map (Za .i64))],.pv [.agg [.int .i64 a,.int .i64 b,.int .i64 c]] 0 0] [] (.bool (c3e (x0,x1,x2,x3,x4,x5,x6) a b c)) []:=by
 apply zcn [.tmp 3] [] Tryz.func137 Tryz.ntmps137;intro _ _ _;have T:=tq5 Y3 Y4 Y34 Y41 Y93;have F:=Fc.mk True.intro;apply yR [1,2];apply yRc [3] (d7t x0 x1 x2 x3 x4 x5 x6 a b c);apply (zr);exact b0h rfl rfl (.inl rfl)
end
theorem f0d (l:List (Int×Int×Int×Int×Int×Int×List Int)) (a b c:Int) (hl:l.length≤1048576):Con Tryz.prog 93 [sQ rQf l,.agg [.int .i64 a,.int .i64 b,.int .i64 c]] [] (.int .i64 (d29 l a b c)) []:=by
 apply zcn [.tmp 4] [] Tryz.func93 Tryz.ntmps93;intro _ _ _;have T:=tq5 Y3 Y27 Y34 Y41 Y93;have F:=Fc.mk True.intro;apply yR [0,3];apply yRc [4] (c71 l _ _ (fun x=>c3e x a b c) hl (.pv _ .nil) (fun x0 x1 x2 x3 x4 x5 x6 _=>d7s x0 x1 x2 x3 x4 x5 x6 a b c));apply (zr);exact b0h rfl rfl (.inl rfl)
set_option maxRecDepth 8000 in
theorem d4k (l:List (Int×Int×Int×Int×Int×Int×List Int)) (a b c:Int) (hl:l.length≤1048576):Con Tryz.prog 52 [sQ rQf l,.agg [.int .i64 a,.int .i64 b,.int .i64 c]] [] (.int .i64 (d29 l a b c)) []:=by
 apply zcn [.tmp 4] [] Tryz.func52 Tryz.ntmps52;intro _ _ _;have T:=tq6 Y3 Y4 Y27 Y34 Y41 Y93;have F:=Fc.mk True.intro;apply yR [0,3];apply b0e;intros;apply yR [3,7,8,9];apply b0g;intro _ _ x4 _ _;apply b05 (fun i=>⟨[(3,.ptr 0 0 0),(7,sQ rQf l),(8,.int .i64 l.length),(9,.int .i64 (Zi i))],[.box (.agg [.int .i64 a,.int .i64 b,.int .i64 c]) .flat],false,19,0⟩) (fun i=>i≤l.length∧b2r (fun x:(Int×Int×Int×Int×Int×Int×List Int)=>c3e x a b c) i (l.drop i)=b2r (fun x:(Int×Int×Int×Int×Int×Int×List Int)=>c3e x a b c) 0 l) (fun i=>l.length - i) 0
 ·apply b0d [3,7,8,9] [0];rfl
 ·exact ⟨qle _,rfl⟩
 ·rintro i hok5 Q5 n5 e5 r5;obtain ⟨hi1,hR⟩:=hok5;apply yR [3,7,8,9,10];apply b0e;intros;apply b0c _ rfl
  ·intro hc0;have hlt:i < l.length:=by omega
   obtain ⟨⟨x0,x1,x2,x3,x4,x5,x6⟩,hx⟩:∃x:Int×Int×Int×Int×Int×Int×List Int,l[i]? =some x:=⟨l[i]'(by omega),qla (by omega)⟩;have hst:=b5j (p:=fun x:(Int×Int×Int×Int×Int×Int×List Int)=>c3e x a b c) hx;apply zn [3,7,8,9];apply b0e;intros;apply b0g;intros;have F:=Fc.mk (gdm hx);apply yR [3,5,6,7,8,9];apply yRc [3,5,7,8,9,16] (d25 x0 x1 x2 x3 x4 x5 x6 a b c);apply b0c _ rfl
   ·intro hc1;apply yR [4];apply (zr);exact b0h rfl (by rw [d29,←hR,hst,if_pos hc1]) (.inl rfl)
   ·intro hc1;apply zn [3,7,8,9];apply (yV);apply n5 _ (i+1)
    ·apply b0d [3,7,8,9] [0];rfl
    ·exact ⟨hlt,by rw [←hR,hst,if_neg (by simp [hc1])]⟩
    ·show _ < _;omega
  ·intro hc0;apply zn [];apply yR [4];apply (zr);exact b0h rfl (by rw [d29,←hR,b6g (by omega)]) (.inl rfl)
set_option maxRecDepth 8000 in
theorem c10 (l:List (Int×Int×Int×Int×Int×Int×List Int)) (a b c:Int) (hl:l.length≤1048576) (hls:∀t∈l,t.2.2.2.2.2.2.length≤1048576):Con Tryz.prog 10 [sQ rQf l,.agg [.int .i64 a,.int .i64 b,.int .i64 c]] [] (.tup [.ref 0,.bool (nfB l a b c)]) [.arr ((b3r (nfB l a b c) (nfL l a b c)).map (Za .i64)) .flat]:=by
 apply zcn [.tmp 4,.tmp 5] [] Tryz.func10 Tryz.ntmps10;intro _ _ _;have T:=tq6 Y3 Y4 Y27 Y34 Y41 Y93;have F:=Fc.mk True.intro;apply yR [0,3];apply b0e;intros;apply c5h [0,3,19] (f0b l hl hls) (f0i a b c) (d4k l a b c hl);apply b0c _ rfl
 ·intro hc0;have hB:(nfB l a b c)=false:=by
   cases hq:(nfB l a b c) with
   |false=>rfl
   |true=>
    exfalso;rw [nfB,qlg,qlg,decide_eq_true_eq] at hq;simp [hq.1.1,hq.1.2] at hc0;omega
  apply yR [4,5];apply (zr);simp only [aQ,fQ,hB,b3e,Zh];exact rta
 ·intro hc0;have hq:c04 l=true∧d4n a b c=true∧0≤d29 l a b c:=by
   (try simp at hc0)
   first | exact ⟨hc0.1.1,hc0.1.2,hc0.2⟩ | exact ⟨hc0.1,hc0.2.1,hc0.2.2⟩ | (refine ⟨?_,?_,?_⟩<;>simp_all)
  have h0:=hq.2.2;have hB:(nfB l a b c)=true:=by rw [nfB,hq.1,hq.2.1,decide_eq_true h0];rfl
  obtain ⟨k,⟨x0,x1,x2,x3,x4,x5,x6⟩,hk1,hk2,hk3⟩:=d68 h0;have hlx:=hls _ (qlb hk1);simp only [] at hlx hk3;have hkl:=(qlc.1 hk1).1;apply zn [0,3];have F:=fq3 hk2 @qlh (gdm hk1);apply g2c [4,5] (d4k l a b c hl) (c5m x6 hlx);apply (zr);simp only [hB,b14,hk3];exact rta
set_option maxRecDepth 8000 in
theorem c9g (l:List (Int×Int×Int×Int×Int×Int×List Int)) (a b c:Int) (hl:l.length≤1048576) (hls:∀t∈l,t.2.2.2.2.2.2.length≤1048576):Con Tryz.prog 36 [sQ rQf l,.agg [.int .i64 a,.int .i64 b,.int .i64 c]] [] (.tup [.ref 0,.bool (decide (0≤d29 l a b c))]) [.arr ((b3r (decide (0≤d29 l a b c)) (nfL l a b c)).map (Za .i64)) .flat]:=by
 apply zcn [.tmp 4,.tmp 5] [] Tryz.func36 Tryz.ntmps36;intro _ _ _;have T:=tq5 Y3 Y27 Y34 Y41 Y93;have F:=Fc.mk True.intro;apply yR [0,3];apply yRc [0,6] (f0d l a b c hl);apply b0e;intros;apply yR [0,6,11];apply b0c _ rfl
 ·intro hc0;have hB:(decide (0≤d29 l a b c))=false:=decide_eq_false (by omega);apply yR [4,5];apply (zr);simp only [aQ,fQ,hB,b3e,Zh];exact rta
 ·intro hc0;have h0:0≤d29 l a b c:=by omega
  have hB:(decide (0≤d29 l a b c))=true:=decide_eq_true h0;obtain ⟨k,⟨x0,x1,x2,x3,x4,x5,x6⟩,hk1,hk2,hk3⟩:=d68 h0;have hlx:=hls _ (qlb hk1);simp only [] at hlx hk3;have hkl:=(qlc.1 hk1).1;apply zn [0,6];have F:=fq3 hk2 @qlh (gdm hk1);apply yRc [4,5] (b4g x6 hlx);apply (zr);simp only [hB,b14,hk3];exact rta
theorem d1u {ins:List TI} {node:Int} {q:TI→Prop} (h:∀x∈ins,q x) (h0:q (b9q ins node)):∀x∈ins++[b9q ins node],q x:=fun x hx=>by
  rcases qll.1 hx with e | e
  · exact h x e
  · rw [qlm] at e;subst e;exact h0
theorem c2g {α:Type} (l:List α) (x:α):b1w (l++[x]).length=.deep:=by
  unfold b1w;rw [if_neg (by simp)]
theorem f8v (ins:List TI) (node:Int):WkL ((ins.map rQb++[Zj [Za .i64 (b7o ins),Za .i64 node,Zg false,Zk]]).flatMap V.cells) (((ins++[(b9q ins node)]).map rQb).flatMap V.cells):=by
  rw [qmu,qmw,qmw];exact WkL.append (WkL.refl _) ⟨.inl rfl,.inl rfl,.inl rfl,.inr (.inl ⟨rfl,rfl⟩),trivial⟩
theorem f8x (ins:List TI) (node:Int):∀n,(∀x∈(ins.map rQb++[Zj [Za .i64 (b7o ins),Za .i64 node,Zg false,Zk]]),x.cells.length=n)→∀y∈(ins++[(b9q ins node)]).map rQb,y.cells.length=n:=by
  intro n hn y hy;have h4:n=4:=(hn (Zj [Za .i64 (b7o ins),Za .i64 node,Zg false,Zk]) (by simp)).symm;obtain ⟨x,hx,rfl⟩:=qmd.1 hy;rw [h4];rfl
theorem g3s {P:Program} {f:FuncId} {ins:List TI} {node:Int} {rest:List V} {O O2:List Blk} {r:V} (hc:Con P f (sQ rQb (ins++[(b9q ins node)])::rest) O r O2):Con P f (.sl (ins.map rQb++[Zj [Za .i64 (b7o ins),Za .i64 node,Zg false,Zk]])::rest) O r O2:=
  d4x hc (f8v ins node) (by simp) (f8x ins node)
theorem f7e {m:Nat} {s:St} (id:Nat) (ins:List TI) (node:Int) (k:Kd) (hO:s.O[id]? =some (.arr (ins.map rQb++[Zj [Za .i64 (b7o ins),Za .i64 node,Zg false,Zk]]) k)):b44 m s {s with O:=s.O.set id (.arr ((ins++[(b9q ins node)]).map rQb) k)}:=
  b8a id _ _ (ins.map rQb++[Zj [Za .i64 (b7o ins),Za .i64 node,Zg false,Zk]]) ((ins++[(b9q ins node)]).map rQb) k hO (.inl ⟨rfl,rfl⟩) (f8v ins node) (by simp) (f8x ins node)
set_option maxRecDepth 8000 in
theorem d4y (ins:List TI) (node:Int) (hp:IncsProp ins) (hil:ins.length≤1048576) (hin:∀x∈ins,x.2.2.2.length≤1048576):Con Tryz.prog 37 [sQ rQb ins,.int .i64 node] [] (.tup [.ref 0,.int .i64 (bif (opB ins) then b7o ins else 0),.bool (opB ins)]) [fQ rQe (b3r (opB ins) (ins++[(b9q ins node)]))]:=by
 apply zcn [.tmp 4,.tmp 5,.tmp 6] [] Tryz.func37 Tryz.ntmps37;intro _ _ _;have T:=tq6 Y3 Y4 Y9 Y29 Y48 Y96;have F:=Fc.mk True.intro;apply yR [0,1];apply yR [0,1,7];apply b4r (A:=Unit) (fun u=>⟨[(0,sQ rQb ins),(1,.int .i64 node),(7,.int .i64 (b7o ins))],[],false,34,0⟩) (fun u=>True)
 ·intro _ n3 _ _;apply yR [0,1,7,10];apply b0c _ rfl
  ·intro hc0;have hlt:ins.length - 1 < ins.length:=by omega
   obtain ⟨⟨x0,x1,x2,x3⟩,hx⟩:∃x:TI,ins[ins.length - 1]? =some x:=⟨ins[ins.length - 1]'(by omega),qla (by omega)⟩;have hnm:b7o ins=x0+1:=by rw [b7o,hx]
   have hxb:=(hp.each _ (qlb hx)).num;simp only [] at hxb;have hkn:((ins.length:Int) - 1).toNat=ins.length - 1:=by omega
   have F:=fq2 hkn (gdm hx);apply (yV);apply n3 () _
   ·trivial
   ·apply b0d [0,1,7] [];rw [hnm]
  ·intro hc0;have hn0:b7o ins=1:=by
    have h0:ins.length=0:=by omega
    obtain rfl:ins=[]:=qlt.1 h0;rfl
   apply b6m;apply n3 () _
   ·trivial
   ·apply b0d [0,1,7] [];rw [hn0]
 ·rintro u hok3;have hu:True:=hok3;apply b0e;intros;have F:=Fc.mk True.intro;apply yR [0,1,7,25];apply b0c _ rfl
  ·intro hc1;have hB:(opB ins)=false:=by
    cases hq:(opB ins) with
    |false=>rfl
    |true=>
     exfalso;rw [opB,qlg,decide_eq_true_eq,decide_eq_true_eq] at hq;first | omega | (simp at hc1;omega)
   apply b0e;intro _ n10 _ _;apply (yV);apply n10
   ·apply b0m (b0a [4,5,6] _);simp only [b0r,b0k,b0i,b0f,b0n,Nat.reduceEqDiff,reduceIte];exact b2o _ _
   try simp only [b04,b09,Nat.reduceEqDiff,reduceIte,Zb,Zc]
   apply (zr);simp only [aQ,fQ,hB,b3e,Zh,Zd,d17,cond_false];exact rta
  ·intro hc1;have hB:(opB ins)=true:=by
    have h8:=hp.len;have hq:ins.length < 8∧b7o ins≤999:=by first | omega | (simp at hc1;omega)
    rw [opB,decide_eq_true hq.1,decide_eq_true hq.2];rfl
   apply zn [0,1,7];apply b0e;intro _ n12 _ _;apply yVc (b5a ins hil hin);apply n12
   ·apply b0m (b0a [4,5,6] _);simp only [b0r,b0k,b0i,b0f,b0n,Nat.reduceEqDiff,reduceIte];first | exact c0v 2 ins.length _ rfl | exact b2o _ _
   try simp only [b04,b09,Nat.reduceEqDiff,reduceIte,Zb,Zc]
   apply (zr);simp only [hB,b14,cond_true];have hsn:ins.map rQe++[Zj [Za .i64 (b7o ins),Za .i64 node,Zg false,Zk]]=(ins++[(b9q ins node)]).map rQe:=by simp only [aQ,fQ,List.map_append];try rfl
   (try simp only [aQ,fQ])
   rw [←hsn,c2g];exact rta
section
variable (ins:List TI) (node:Int) (hl:(ins++[b9q ins node]).length≤1048576) (hin:∀x∈ins++[b9q ins node],x.2.2.2.length≤1048576) (his:∀x∈ins++[b9q ins node],∀s∈x.2.2.2,s.size≤9223372036854775807)
include ins node hl hin his
theorem f7c (hB:c4a (ins++[(b9q ins node)])=true):Con Tryz.prog 108 [.ref 0] [.arr (ins.map rQb++[Zj [Za .i64 (b7o ins),Za .i64 node,Zg false,Zk]]) (b1w ins.length)] (.tup [.ref 0,.bool true]) [.arr (ins.map rQb++[Zj [Za .i64 (b7o ins),Za .i64 node,Zg false,Zk]]) (b1w ins.length)]:=by
 apply zcn [.tmp 2,.tmp 3] [] Tryz.func108 Tryz.ntmps108;intro _ _ _;have T:=tq6 Y3 Y4 Y9 Y29 Y48 Y96;have F:=Fc.mk True.intro;apply yR [0];apply b0e;intros;apply yRc [0,6] (g3s (c2m (ins++[(b9q ins node)]) hl hin his));apply b2a _ rfl
 ·intro hc0;exfalso;simp [hB] at hc0
 ·intro hc0;try simp only [zC,reduceCtorEq] at hc0
  apply zn [0];apply yR [2,3];apply (zr);exact rta
theorem g5l (hB:c4a (ins++[(b9q ins node)])=false):Con Tryz.prog 108 [.ref 0] [.arr (ins.map rQb++[Zj [Za .i64 (b7o ins),Za .i64 node,Zg false,Zk]]) (b1w ins.length)] (.tup [.ref 1,.bool false]) [.arr (ins.map rQb++[Zj [Za .i64 (b7o ins),Za .i64 node,Zg false,Zk]]) (b1w ins.length),eQ]:=by
 apply zcn [.tmp 2,.tmp 3] [] Tryz.func108 Tryz.ntmps108;intro _ _ _;have T:=tq6 Y3 Y4 Y9 Y29 Y48 Y96;have F:=Fc.mk True.intro;apply yR [0];apply b0e;intros;apply yRc [0,6] (g3s (c2m (ins++[(b9q ins node)]) hl hin his));apply b2a _ rfl
 ·intro hc0;try simp only [zC,reduceCtorEq] at hc0
  apply yR [2,3];apply (zr);exact rta
 ·intro hc0;exfalso;simp [hB] at hc0
end
set_option maxRecDepth 8000 in
theorem d4l (ins:List TI) (node:Int) (hp:IncsProp ins) (hil:ins.length≤1048576) (hin:∀x∈ins,x.2.2.2.length≤1048576) (hn:0≤node∧node≤13) (his:∀x∈ins,∀s∈x.2.2.2,s.size≤9223372036854775807):Con Tryz.prog 43 [sQ rQb ins,.int .i64 node] [] (.tup [.ref 0,.int .i64 (bif (opB ins) then b7o ins else 0),.bool (opB ins)]) [fQ rQb (b3r (opB ins) (ins++[(b9q ins node)]))]:=by
 have hB0:c4a ins=true:=(c8p _).2 hp;have hap:((decide (0≤node) && decide (node≤13)))=true:=by simp [hn]
 have hoi:=g3y hp hn;apply zcn [.tmp 4,.tmp 5,.tmp 6] [(108,[0])] Tryz.func43 Tryz.ntmps43;intro _ _ _;have T:=tq6 Y3 Y4 Y9 Y29 Y48 Y96;have F:=Fc.mk True.intro;apply yR [0,1];apply b0e;intros;apply d6n [0,1,18] (c2m ins hil hin his) (c6q node);apply b2a _ rfl
 ·intro hc0;exfalso;simp [hB0,hn] at hc0
 ·intro hc0;try simp only [zC,reduceCtorEq] at hc0
  apply zn [0,1];apply yR [0,1,7];apply b4r (A:=Unit) (fun u=>⟨[(0,sQ rQb ins),(1,.int .i64 node),(7,.int .i64 (b7o ins))],[],false,45,0⟩) (fun u=>True)
  ·intro _ n6 _ _;apply yR [0,1,7,8];apply yR [0,1,7,8,22];apply b0c _ rfl
   ·intro hc1;have hlt:ins.length - 1 < ins.length:=by omega
    obtain ⟨⟨x0,x1,x2,x3⟩,hx⟩:∃x:TI,ins[ins.length - 1]? =some x:=⟨ins[ins.length - 1]'(by omega),qla (by omega)⟩;have hnm:b7o ins=x0+1:=by rw [b7o,hx]
    have hxb:=(hp.each _ (qlb hx)).num;simp only [] at hxb;have hkn:((ins.length:Int) - 1).toNat=ins.length - 1:=by omega
    have F:=fq2 hkn (gdm hx);apply (yV);apply n6 () _
    ·trivial
    ·apply b0d [0,1,7] [];rw [hnm]
   ·intro hc1;have hn0:b7o ins=1:=by
     have h0:ins.length=0:=by omega
     obtain rfl:ins=[]:=qlt.1 h0;rfl
    apply b6m;apply n6 () _
    ·trivial
    ·apply b0d [0,1,7] [];rw [hn0]
  ·rintro u hok6;have hu:True:=hok6;rcases Bool.eq_false_or_eq_true (opB ins) with hB | hB
   ·skip;have hif:=f7c ins node (by rw [qln,ql1];have:=hp.len;omega) (d1u hin (qle _)) (d1u his (fun _ h=>nomatch h)) (by rw [hoi,hB]);apply b1l [7,9,10];intro _ k11;have F:=Fc.mk True.intro;apply (zU);apply zc (b3p ins hil hin);apply (zq2);apply (c7k);apply (b2c);apply (c5u);apply zcl (hif);apply (zq8);apply (b2h);apply (b2h);apply k11 _;apply (zk);apply b0e;intros;apply yR [7,9,42];apply b2a _ rfl
    ·intro hc2;exfalso;simp at hc2
    ·intro hc2;try simp only [zC,reduceCtorEq] at hc2
     apply zn [7,9];apply b0e;intro _ n15 _ _;apply (yV);apply n15
     ·apply b0m (b0a [4,5,6] _);simp only [b0r,b0k,b0i,b0f,b0n,Nat.reduceEqDiff,reduceIte];exact b0m (f7e 2 ins node _ rfl) (c0v 2 ins.length _ rfl)
     try simp only [b04,b09,Nat.reduceEqDiff,reduceIte,Zb,Zc]
     apply (zr);simp only [hB,b14,cond_true];simp only [aQ,fQ,c2g];exact rta
   ·skip;have hif:=g5l ins node (by rw [qln,ql1];have:=hp.len;omega) (d1u hin (qle _)) (d1u his (fun _ h=>nomatch h)) (by rw [hoi,hB]);apply b1l [7,9,10];intro _ k17;have F:=Fc.mk True.intro;apply (zU);apply zc (b3p ins hil hin);apply (zq2);apply (c7k);apply (b2c);apply (c5u);apply zcl (hif);apply (zq8);apply (b2h);apply (b2h);apply k17 _;apply (zk);apply b0e;intros;apply yR [7,9,42];apply b2a _ rfl
    ·intro hc2;try simp only [zC,reduceCtorEq] at hc2
     apply b0e;intro _ n21 _ _;apply (yV);apply n21
     ·apply b0m (b0a [4,5,6] _);simp only [b0r,b0k,b0i,b0f,b0n,Nat.reduceEqDiff,reduceIte];exact b2o _ _
     try simp only [b04,b09,Nat.reduceEqDiff,reduceIte,Zb,Zc]
     apply (zr);simp only [aQ,fQ,hB,b3e,Zh,Zd,d17,cond_false];exact rta
    ·intro hc2;exfalso;simp at hc2
set_option maxRecDepth 100000 in
theorem f3m (n:Int) (ss:List TS) (fl:List TA) (ins:List TI) (q:Nat) (x0:Int) (x1:Int) (x2:Bool) (x3:List ByteArray) (need:List Int) (hS:SendOK n ss fl ins q (x0,x1,x2,x3) need) (ws:List TW):Con Tryz.prog 39 [.ptr 0 0 0,.pv [tQ n ss] 0 0,.int .i64 (Zi q),.sl (need.map (Za .i64))] [.box (.agg [slN (fl.map rQa),slN (ins.map rQe),slN (ws.map rQc)]) .deep] (.tup [.ref 1,.ref 2]) [.box (.agg [slN ((chF n ss fl x1 need).map rQa),slN ((b4i q ins (chN n ss fl x1 need)).map rQe),slN (ws.map rQc)]) .deep,.arr ((chN n ss fl x1 need).map V.str) .flat,.arr ((chL n ss fl x1 need).map (Za .i64)) .flat]:=by
 have hil:=hS.il;have hfl12:=hS.ds.hfl;have hkl:=(qlc.1 hS.at_).1;have hin:∀x∈ins,x.2.2.2.length≤1048576:=fun x hx=>ql7 (hS.nl x hx) (by decide)
 have hnd2:=hS.node;have hne2:=hS.nd4;simp only [] at hnd2;have hcl:=c1y (node:=x1) (need:=need) hS.ds;have hco:=f3x (node:=x1) hS.ds hne2;have hfk:b1w ins.length=.deep:=by unfold b1w;rw [if_neg (by omega)]
 have hnsf:(fl.map rQa).all V.noSl=true:=by rw [qmp,qlk];intro a _;rfl
 have hine:ins.map rQe≠[]:=fun e=>by
  have e2:=congrArg List.length e;rw [qlu,Zd] at e2;omega
 have hms:(chO n ss fl x1 need).foldl (c62 fl) need=(chL n ss fl x1 need):=d53 fl need _;have hok:∀i∈(chO n ss fl x1 need),∃(k:Nat) (a:TA),i=(k:Int)∧fl[k]? =some a∧0≤a.2.1∧a.2.1≤3:=fun i hi=>by
  obtain ⟨q,a,q1,q2,_,_,q5,q6⟩:=d1v hS.ds hne2 hi;exact ⟨q,a,q1,q2,q5,q6⟩
 have hcn:=d9a hS;have hce:=d8n hS;simp only [] at hcn hce;have hso12:(b3s (chO n ss fl x1 need)).length≤12:=by rw [hcn];exact hcl
 apply f3q [.tmp 8,.tmp 9] [(99,[0]),(100,[0])] Tryz.func39 rfl rfl rfl (by simp [Tryz.ntmps39]) _ (d4o 0 (fl.map rQa) (ins.map rQe) (ws.map rQc) .deep (b1w ws.length) rfl hnsf (fun e=>absurd e hine) (fun _=>rfl) d21 d3o rfl);intro _ _ r0;simp only [aQ,fQ,Tryz.ntmps39,b5s,Nat.reduceAdd,Zb,Zc,List.cons_append,List.nil_append,List.length_cons,Zd];have T:=tqa (c2r Y3 Y4 Y9 Y24 Y26 Y28 Y29 Y30 Y32 Y41 Y48 Y69) (tq4 Y81 Y96 Y98 b7w);have F:=Fc.mk True.intro;have F:=fq2 @qlh (gdm hS.at_);apply yR [0,1,2,3];apply b0e;intro _ n2 e2 _;apply b1b (by kernel_rfl);intro _ q3 k3;show b13 _ _ _ _ 16 (Array.replicate 16 false) _;refine zdU q3 true 0 15 ?_;refine zdU q3 true 1 16 ?_;refine zdU q3 true 2 17 ?_;refine zdU q3 true 3 18 ?_;refine b00 q3 true 4 19 ?_;refine zdU q3 true 5 20 ?_;refine zdU q3 true 6 21 ?_;refine zdU q3 true 7 22 ?_;refine b00 q3 true 8 23 ?_;refine zdU q3 true 9 24 ?_;refine b0z q3 true 10 25 ?_;refine zdU q3 true 11 26 ?_;refine b00 q3 true 12 27 ?_;refine zdU q3 true 13 28 ?_;apply zoc 14 (d1l n ss fl x1 need hS.ds hnd2 hne2);apply b0q 15;apply b0b (by kernel_rfl);apply k3 _;apply n2 _ _ (b0a [0,2,3,10] _);apply (zk);apply yRc [0,2,10,11] (d0g fl (chO n ss fl x1 need) need (by omega) hco hok hne2);apply yRl [0,2,10,11] (d0f (chO n ss fl x1 need) (by omega));apply yR [0,2,10,11,12];apply b0e;intros;apply yR [0,2,11,12,39,40,41];apply b0g;intros;apply b05 (fun j=>⟨[(0,.ptr 0 0 0),(2,.int .i64 (Zi q)),(11,.ref 4),(12,.ref 5),(39,.ref 6),(40,.int .i64 (b3s (chO n ss fl x1 need)).length),(41,.int .i64 (Zi j))],[bQ 1 2 3,aQ rQa (b6d fl ((b3s (chO n ss fl x1 need)).take j)),.arr ((b4i q ins ((chN n ss fl x1 need).take j)).map rQe) .deep,fQ rQc ws,.arr ((chL n ss fl x1 need).map (Za .i64)) .flat,.arr (((chN n ss fl x1 need).take j).map V.str) .flat,.arr ((b3s (chO n ss fl x1 need)).map (Za .i64)) .flat],false,81,0⟩) (fun j=>j≤(b3s (chO n ss fl x1 need)).length) (fun j=>(b3s (chO n ss fl x1 need)).length - j) 0
 ·apply b1a [0,2,11,12,39,40,41] [0,1,2,3,7,8,6];rw [qm4,qm4,c5j hS.at_,hms];rfl
 ·exact qle _
 ·rintro j hok10 Q10 n10 e10 r10;have hj1:j≤(b3s (chO n ss fl x1 need)).length:=hok10;apply yR [0,2,11,12,39,40,41,42];apply b0e;intros;apply b0c _ rfl
  ·intro hc0;have hlt:j < (b3s (chO n ss fl x1 need)).length:=by omega
   obtain ⟨i,hi⟩:∃i,(b3s (chO n ss fl x1 need))[j]? =some i:=⟨_,qla hlt⟩;obtain ⟨m,⟨a0,a1,a2,a3,a4⟩,rfl,hm,ha,hst,hs⟩:=d6a hS hi;simp only [] at hs hst ha;obtain ⟨h1,h2,h3,h4,h5,h6,h7⟩:=c9k hS hs;have hal:(b4i q ins ((chN n ss fl x1 need).take j)).length=ins.length:=c1u ..;have hcp:(b6d fl ((b3s (chO n ss fl x1 need)).take j)).length=fl.length:=c4v ..;have hcp2:(b6d fl ((b3s (chO n ss fl x1 need)).take (j+1))).length=fl.length:=c4v ..;have hsm:((b6d fl ((b3s (chO n ss fl x1 need)).take j)).map rQa).set m (Zj [V.str a0,Za .i64 a1,Za .i64 a2,Za .i64 a3,Za .i64 1])=(b6d fl ((b3s (chO n ss fl x1 need)).take (j+1))).map rQa:=by rw [hst,qmx];rfl
   have hgN:(b6d fl ((b3s (chO n ss fl x1 need)).take (j+1)))[m]? =some (a0,a1,a2,a3,1):=by rw [hst];exact qlf (by omega)
   have htn:((chN n ss fl x1 need).take j).map V.str++[V.str a0]=((chN n ss fl x1 need).take (j+1)).map V.str:=(b2t (f:=V.str) hs).symm;apply zn [0,2,11,12,39,40,41];apply b0e;intros;apply b0g;intros;have F:=fq9 @qlh (gdm hS.at_) (gdm hi) hcp (gdm ha) hsm hcp2 (gdm hgN) hal;apply yR [0,2,11,12,14,39,40,41];apply yR [0,2,11,12,14,39,40,41];apply b0e;intro _ n18 _ _;apply b1b (by kernel_rfl);intro _ q19 k19;show b13 _ _ _ _ 15 (Array.replicate 15 false) _;refine zdU q19 true 0 52 ?_;refine zdU q19 true 1 53 ?_;refine zdU q19 true 2 54 ?_;refine b00 q19 true 3 55 ?_;refine zdU q19 true 4 56 ?_;refine b0z q19 true 5 57 ?_;refine zdU q19 true 6 58 ?_;refine zdU q19 true 7 59 ?_;refine zdU q19 true 8 60 ?_;refine b00 q19 true 9 61 ?_;refine zdU q19 true 10 62 ?_;refine b0z q19 true 11 63 ?_;refine zdU q19 true 12 64 ?_;refine b00 q19 true 13 65 ?_;apply b4j 14 rfl (by kernel_rfl);intro K k;simp only [zE,zM,b0x,b0s,b0j,Nat.reduceEqDiff,reduceIte,Nat.reduceLT,implies_true,forall_const,reduceCtorEq,V.ofValue,V.ofScalar,V.un,V.gd,b1c,b3x,b4q,Tryz.underlying3,Ty.c3,Ty.a3,Ty.b3,Ty.s3,Tryz.underlying4,Ty.c4,Ty.a4,Ty.b4,Ty.s4,Tryz.underlying9,Ty.c9,Ty.a9,Ty.b9,Ty.s9,Tryz.underlying48,Ty.c48,Ty.a48,Ty.b48,Ty.s48,Tryz.underlying96,Ty.c96,Ty.a96,Ty.b96,Ty.s96];repeat (refine ai (by first | rfl | (intros;simp_all;done)) ?_)
   refine c2n _ (f4x (b4i q ins ((chN n ss fl x1 need).take j)) q a0 x0 x1 x2 (b3l x3 ((chN n ss fl x1 need).take j)) h4 h2 h1 (by omega)) (d0k rfl rfl) rfl ⟨by simp [Blk.kindIs,b02,b1m],by simp⟩ (by first | exact .inl rfl | exact .inr (by simp [Blk.kindIs])) ⟨rfl,by simp [Blk.kindIs,b4c,b7i]⟩ ?_;apply k _;clear k K;simp only [zY,zW,b0j,Nat.reduceEqDiff,reduceIte,c0j,d2m,V.ren,V.renL,Zb,Zc,Nat.reduceAdd];apply b0b (by kernel_rfl);apply k19 _;apply n18 _ _ (b0a [0,2,11,12,14,39,40,41] _);apply (zk);apply yQ [0,2,11,12,39,40,41];apply (yV);apply n10 _ (j+1)
   ·apply b1a [0,2,11,12,39,40,41] [0,1,2,3,4,8,6];rw [h7,htn];rfl
   ·exact hlt
   ·show _ < _;omega
  ·intro hc0;have hje:(chN n ss fl x1 need).take j=(chN n ss fl x1 need):=ql3 (by omega);have hjs:(b3s (chO n ss fl x1 need)).take j=(b3s (chO n ss fl x1 need)):=ql3 (by omega);apply zn [11,12];apply yR [8,9];apply f9k;refine r0 _ _ (d10 (d1b 0 1 2 3 _ _ _ .deep (b1w _) rfl rfl rfl rfl (.inr rfl) (c0r _) (by decide) (by decide) (by decide) (by decide) (by decide) (by decide))) ?_;try simp only [aQ,fQ,Zb,Zc,List.cons_append,List.nil_append,List.length_cons,Zd,Nat.reduceAdd]
   apply (zf);rw [hje,hjs,hce];exact rta
def tkB (n:Int) (ss:List TS) (fl:List TA) (ins:List TI) (ws:List TW) (tb:List (Int×Int×Int×Int×Int×Int×List Int)) (node a b c:Int):Bool:=b3g n ss fl ins ws && nfB tb a b c && c1m n node && opB ins && (tkZ n ss fl node (nfL tb a b c) || decide (ws.length < 8))
structure TkOK (n:Int) (ss:List TS) (fl:List TA) (ins:List TI) (ws:List TW) (tb:List (Int×Int×Int×Int×Int×Int×List Int)) (node a b c:Int):Prop where
  p:CtlProp n ss fl ins ws
  nf:nfB tb a b c=true
  nd:0≤node∧node < n
  nn:n≤14
  need:(nfL tb a b c).length=4∧∀v∈(nfL tb a b c),0≤v∧v≤6
section
variable {n:Int} {ss:List TS} {fl:List TA} {ins:List TI} {ws:List TW}
theorem g5d {tb:List (Int×Int×Int×Int×Int×Int×List Int)} {node a b c:Int} (h1:b3g n ss fl ins ws=true) (h2:nfB tb a b c=true) (h3:c1m n node=true):TkOK n ss fl ins ws tb node a b c:=by
  have hp:=(b36 n ss fl ins ws).1 h1;have ht:=b5b h1;have hn:1≤n∧n≤14:=by
    simp only [c0c,c6o,Zf,decide_eq_true_eq] at ht;exact ht.1.1
  have h2b:=h2;rw [nfB,qlg,qlg,decide_eq_true_eq] at h2b;simp only [c1m,Zf,decide_eq_true_eq,IntKind.wrap_i64] at h3;exact ⟨hp,h2,⟨h3.1,by omega⟩,hn.2,f0a h2b.1.1 h2b.2⟩
theorem f6y {node:Int} {need:List Int} (h:tkZ n ss fl node need=true):tkW n ss fl ins ws node need=ws:=by rw [tkW,if_pos h]
theorem g4q {node:Int} {need:List Int} (h:tkZ n ss fl node need=false):tkW n ss fl ins ws node need=ws++[(b7o ins,chL n ss fl node need)]:=by rw [tkW,if_neg (by rw [h];decide)]
end
theorem f3y {s:ByteArray} (h:b6a s=true):s.size≤9223372036854775807:=by simp [b6a] at h;omega
section
variable {n:Int} {ss:List TS} {fl:List TA} {ins:List TI} {ws:List TW}
theorem f5c (h:CtlProp n ss fl ins ws):fl.length≤1048576∧(∀t∈fl,t.1.size≤9223372036854775807)∧ins.length≤1048576∧(∀x∈ins,x.2.2.2.length≤1048576)∧∀x∈ins,∀s∈x.2.2.2,s.size≤9223372036854775807:=by
  have h1:=h.fl12;have h2:=h.inc.len;refine ⟨by omega,fun t ht=> ?_,by omega,fun x hx=> ?_,fun x hx s hs=>f3y ((h.inc.each x hx).nm s hs)⟩
  · have:=h.ap t ht
    simp only [c3f,Zf] at this;exact f3y this.1.1.1.1
  · have:=(h.inc.each x hx).len;omega
theorem g16 {node:Int} {need:List Int} (h:ws.length≤8) (hw:∀x∈ws,x.2.length≤1048576) (hd:need.length=4∧∀v∈need,0≤v∧v≤6):(tkW n ss fl ins ws node need).length≤1048576∧∀x∈tkW n ss fl ins ws node need,x.2.length≤1048576:=by
  cases hz:tkZ n ss fl node need with
  | true=>rw [f6y hz];exact ⟨by omega,hw⟩
  | false=>
    rw [g4q hz];refine ⟨by rw [qln,ql1];omega,fun x hx=> ?_⟩;rcases qll.1 hx with e | e
    · exact hw x e
    · rw [qlm] at e;subst e
      have:=(b5z (n:=n) (ss:=ss) (fl:=fl) (node:=node) hd).1;show (chL n ss fl node need).length≤_;omega
end
end Go.Proofs.YtmbbjhopngejaaaGreat
