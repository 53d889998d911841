/- What functions compute. No condition. -/
import Derived.Test.YtmbbjhopngejaaaGreatDoorUz
import Derived.Test.YtmbbjhopngejaaaGreatDoorUty
set_option linter.unusedSimpArgs false
set_option linter.unusedVariables false
set_option linter.defProp false
namespace Go.Proofs.YtmbbjhopngejaaaGreatDoor
open Go Go.Vm
set_option maxHeartbeats 8000000
theorem b4d (n lo hi:Int):Con Tryz.prog 92 [.int .i64 n,.int .i64 lo,.int .i64 hi] [] (.bool (decide (lo≤n) && decide (n≤hi))) []:=by
 refine zcn [.tmp 6] [] Tryz.func92 Tryz.ntmps92 ⟨?_⟩;intro Q0 n0 r0;have T:=Tys.mk Ty.t3;have F:=Fc.mk True.intro;refine yR [0,1,2] ⟨?_⟩;refine yR [6] ⟨?_⟩;refine zr ⟨?_⟩;exact b0g rfl (by first | rfl | simp) (.inl rfl)
theorem b2w (n lo hi:Int):Con Tryz.prog 114 [.int .i64 n,.int .i64 lo,.int .i64 hi] [] (.bool (decide (lo≤n) && decide (n≤hi))) []:=by
 refine zcn [.tmp 6] [] Tryz.func114 Tryz.ntmps114 ⟨?_⟩;intro Q0 n0 r0;have T:=Tys.mk Ty.t3;have F:=Fc.mk True.intro;refine yR [0,1,2] ⟨?_⟩;refine yR [6] ⟨?_⟩;refine zr ⟨?_⟩;exact b0g rfl (by first | rfl | simp) (.inl rfl)
theorem b1h {α:Type} {l:List α} {i:Nat} {x:α} (h:l[i]? =some x):l.drop i=x::l.drop (i+1):=by
  obtain ⟨hi,rfl⟩:=qlc.1 h;exact List.drop_eq_getElem_cons hi
theorem f5e {α:Type} {f:α→Bool} {l:List α} {i:Nat} {x:α} (h:l[i]? =some x):(l.drop i).all f=(f x && (l.drop (i+1)).all f):=by
  rw [b1h h,List.all_cons]
theorem d83 {α β:Type} {f:β→α→β} {l:List α} {i:Nat} {x:α} (h:l[i]? =some x) (b:β):(l.drop i).foldl f b=(l.drop (i+1)).foldl f (f b x):=by
  rw [b1h h,List.foldl_cons]
theorem f27 {α β:Type} {f:β→α→β} {l:List α} {i:Nat} (h:l.length≤i) (b:β):(l.drop i).foldl f b=b:=by
  rw [ql5 h];rfl
theorem b9w {α:Type} {f:α→V} {l:List α} {i:Nat} {x:α}:(l.map f).set i (f x)=(l.set i x).map f:=(qmn).symm
def inR (n lo hi:Int):Bool:=decide (lo≤n) && decide (n≤hi)
def c17 (l:List Int) (a:Int):Int:=l.foldl (fun m x=>if x > m then x else m) a
theorem f1p {l:List Int} {i:Nat} {x:Int} (h:l[i]? =some x) (m:Int):c17 (l.drop i) m=c17 (l.drop (i+1)) (if x > m then x else m):=d83 h m
theorem f4m {l:List Int} {i:Nat} (h:l.length≤i) (m:Int):c17 (l.drop i) m=m:=f27 h m
theorem c2u (a b:Int):Con Tryz.prog 125 [.int .i64 a,.int .i64 b] [] (.int .i64 (if b < a then b else a)) []:=by
 refine zcn [.tmp 4] [] Tryz.func125 Tryz.ntmps125 ⟨?_⟩;intro Q0 n0 r0;have T:=Tys.mk Ty.t3;have F:=Fc.mk True.intro;refine yR [0,1] ⟨?_⟩;refine b0e ?_;intros;refine yR [0,1,7] ⟨?_⟩;refine b0a _ rfl ?_ ?_
 ·intro hc0;refine yR [4] ⟨?_⟩;refine zr ⟨?_⟩;exact b0g rfl (by congr 1;split<;>omega) (.inl rfl)
 ·intro hc0;refine zn [1] ⟨?_⟩;refine yR [4] ⟨?_⟩;refine zr ⟨?_⟩;exact b0g rfl (by congr 1;split<;>omega) (.inl rfl)
theorem c5c (a b:Int):Con Tryz.prog 124 [.int .i64 a,.int .i64 b] [] (.int .i64 (if b > a then b else a)) []:=by
 refine zcn [.tmp 4] [] Tryz.func124 Tryz.ntmps124 ⟨?_⟩;intro Q0 n0 r0;have T:=Tys.mk Ty.t3;have F:=Fc.mk True.intro;refine yR [0,1] ⟨?_⟩;refine b0e ?_;intros;refine yR [0,1,7] ⟨?_⟩;refine b0a _ rfl ?_ ?_
 ·intro hc0;refine yR [4] ⟨?_⟩;refine zr ⟨?_⟩;exact b0g rfl (by congr 1;split<;>omega) (.inl rfl)
 ·intro hc0;refine zn [1] ⟨?_⟩;refine yR [4] ⟨?_⟩;refine zr ⟨?_⟩;exact b0g rfl (by congr 1;split<;>omega) (.inl rfl)
theorem d36 (x:Int) (l:List Int) (hl:(x::l).length≤1048576):Con Tryz.prog 99 [.sl ((x::l).map (V.int .i64))] [] (.int .i64 (c17 l x)) []:=by
 obtain ⟨xl,hxl⟩:∃xl,xl=x::l:=⟨_,rfl⟩;have h0:xl[0]? =some x:=by rw [hxl];rfl
 have hres:c17 (xl.drop 1) x=c17 l x:=by rw [hxl];rfl
 rw [←hxl] at hl⊢;rw [←hres];have hpos:0 < xl.length:=by rw [hxl];simp
 refine zcn [.tmp 2] [] Tryz.func99 Tryz.ntmps99 ⟨?_⟩;intro Q0 n0 r0;have T:=tq2 Ty.t3 Ty.t35;have F:=Fc.mk True.intro;have F:=Fc.mk (gdm h0);refine yR [0] ⟨?_⟩;refine b0e ?_;intros;refine yR [0,7] ⟨?_⟩;refine b18 _ rfl ?_ ?_
 ·intro hc0;exfalso;have hq:=of_decide_eq_true hc0;omega
 ·intro hc0;try simp only [zC,reduceCtorEq] at hc0
  refine zn [0] ⟨?_⟩;refine yR [0,3] ⟨?_⟩;refine b0e ?_;intros;refine yR [0,3,4] ⟨?_⟩;refine b0i ?_;intros;refine b08 (fun p=>⟨[(0,.sl (xl.map (V.int .i64))),(3,.int .i64 p.2),(4,.int .i64 (Nat.cast p.1))],[],false,25,0⟩) (fun p=>1≤p.1∧p.1≤xl.length∧c17 (xl.drop p.1) p.2=c17 (xl.drop 1) x) (fun p=>xl.length - p.1) ((1,x):Nat×Int) ?_ ?_ ?_
  ·refine b2a [0,3,4] ?_;simp only [b02,b0n,b0l,b0j,b0u,Nat.reduceEqDiff,reduceIte];rfl
  ·exact ⟨qlw _,hpos,rfl⟩
  ·rintro p hok9 Q9 n9 e9 r9;obtain ⟨hi0,hi1,hR⟩:=hok9;refine b0e ?_;intros;refine yR [0,3,4,15] ⟨?_⟩;refine b0a _ rfl ?_ ?_
   ·intro hc1;have hlt:p.1 < xl.length:=by omega
    obtain ⟨y,hy⟩:∃y,xl[p.1]? =some y:=⟨xl[p.1],qla hlt⟩;refine zn [0,3,4] ⟨?_⟩;refine b0e ?_;intros;refine b0i ?_;intros;have F:=fq2 (gdm h0) (gdm hy);refine yQ [0,3,4] ⟨?_⟩;refine yV ⟨?_⟩;refine n9 _ (p.1+1,if y > p.2 then y else p.2) ?_ ?_ ?_
    ·refine b2a [0,3,4] ?_;simp only [b02,b0n,b0l,b0j,b0u,Nat.reduceEqDiff,reduceIte];rfl
    ·exact ⟨by show 1≤p.1+1;omega,by show p.1+1≤_;omega,by show c17 (xl.drop (p.1+1)) _=_;rw [←hR,f1p hy]⟩
    ·show _ < _;show xl.length - (p.1+1) < _;omega
   ·intro hc1;refine zn [3] ⟨?_⟩;refine yR [2] ⟨?_⟩;refine zr ⟨?_⟩;exact b0g rfl (by rw [←hR,f4m (by omega)]) (.inl rfl)
def b7n (x:Int):Nat→List Int→Int
  | _,[]=>-1
  | i,y::l=>if x=y then i else b7n x (i+1) l
theorem f39 {x y:Int} {l:List Int} {i:Nat} (h:l[i]? =some y):b7n x i (l.drop i)=if x=y then (i:Int) else b7n x (i+1) (l.drop (i+1)):=by
  rw [b1h h,b7n]
theorem f65 {x:Int} {l:List Int} {i k:Nat} (h:l.length≤i):b7n x k (l.drop i)=-1:=by
  rw [ql5 h,b7n]
theorem c47 (x:Int):∀(l:List Int) (i:Nat),(0≤b7n x i l)↔x∈l
  | [],i=>by simp [b7n]
  | y::l,i=>by
    rw [b7n,qlt];split
    · rename_i h;simp [h]
    · rename_i h;rw [c47 x l (i+1)];simp [h]
theorem c14 {α:Type} {f:α→Bool} {l:List α} {i:Nat} {x:α} (h:l[i]? =some x):(l.drop i).any f=(f x || (l.drop (i+1)).any f):=by
  rw [b1h h,List.any_cons]
theorem c5g {α:Type} {f:α→Bool} {l:List α} {i:Nat} (h:l.length≤i):(l.drop i).any f=false:=by
  rw [ql5 h];rfl
theorem d6d (l:List Int) (x:Int) (hl:l.length≤1048576):Con Tryz.prog 183 [.sl (l.map (V.int .i64)),.int .i64 x] [] (.int .i64 (b7n x 0 l)) []:=by
 refine zcn [.tmp 4] [] Tryz.func183 Tryz.ntmps183 ⟨?_⟩;intro Q0 n0 r0;have T:=tq2 Ty.t3 Ty.t35;have F:=Fc.mk True.intro;refine yR [0,1] ⟨?_⟩;refine b0e ?_;intros;refine yR [0,1,7,8] ⟨?_⟩;refine b0i ?_;intros;refine b08 (fun i=>⟨[(0,.sl (l.map (V.int .i64))),(1,.int .i64 x),(7,.int .i64 l.length),(8,.int .i64 (Nat.cast i))],[],false,19,0⟩) (fun i=>i≤l.length∧b7n x i (l.drop i)=b7n x 0 l) (fun i=>l.length - i) 0 ?_ ?_ ?_
 ·refine b2a [0,1,7,8] ?_;simp only [b02,b0n,b0l,b0j,b0u,Nat.reduceEqDiff,reduceIte];rfl
 ·exact ⟨qle _,rfl⟩
 ·rintro i hok5 Q5 n5 e5 r5;obtain ⟨hi1,hR⟩:=hok5;refine yR [0,1,7,8,9] ⟨?_⟩;refine b0e ?_;intros;refine b0a _ rfl ?_ ?_
  ·intro hc0;have hlt:i < l.length:=by omega
   obtain ⟨y,hy⟩:∃y,l[i]? =some y:=⟨l[i],qla hlt⟩;have hst:=f39 (x:=x) hy;refine zn [0,1,7,8] ⟨?_⟩;refine b0e ?_;intros;refine b0i ?_;intros;have F:=Fc.mk (gdm hy);refine yR [0,1,5,7,8] ⟨?_⟩;refine yR [0,1,5,7,8,16] ⟨?_⟩;refine b0a _ rfl ?_ ?_
   ·intro hc1;refine yR [4] ⟨?_⟩;refine zr ⟨?_⟩;exact b0g rfl (by rw [←hR,hst,if_pos hc1]) (.inl rfl)
   ·intro hc1;refine zn [0,1,7,8] ⟨?_⟩;refine yV ⟨?_⟩;refine n5 _ (i+1) ?_ ?_ ?_
    ·refine b2a [0,1,7,8] ?_;simp only [b02,b0n,b0l,b0j,b0u,Nat.reduceEqDiff,reduceIte];rfl
    ·exact ⟨by omega,by rw [←hR,hst,if_neg hc1]⟩
    ·show _ < _;omega
  ·intro hc0;refine zn [] ⟨?_⟩;refine yR [4] ⟨?_⟩;refine zr ⟨?_⟩;exact b0g rfl (by rw [←hR,f65 (by omega)]) (.inl rfl)
theorem c9o (l:List Int) (x:Int) (hl:l.length≤1048576):Con Tryz.prog 149 [.sl (l.map (V.int .i64)),.int .i64 x] [] (.bool (decide (x∈l))) []:=by
 refine zcn [.tmp 4] [] Tryz.func149 Tryz.ntmps149 ⟨?_⟩;intro Q0 n0 r0;have T:=tq2 Ty.t3 Ty.t35;have F:=Fc.mk True.intro;refine yR [0,1] ⟨?_⟩;refine yRc [4] (d6d l x hl) ⟨?_⟩;refine zr ⟨?_⟩;exact b0g rfl (by congr 1;exact decide_eq_decide.2 (c47 x l 0)) (.inl rfl)
theorem d4t (l:List Int) (x:Int) (hl:l.length≤1048576):Con Tryz.prog 185 [.sl (l.map (V.int .i64)),.int .i64 x] [] (.bool (decide (x∈l))) []:=by
 refine zcn [.tmp 4] [] Tryz.func185 Tryz.ntmps185 ⟨?_⟩;intro Q0 n0 r0;have T:=tq2 Ty.t3 Ty.t35;have F:=Fc.mk True.intro;refine yR [0,1] ⟨?_⟩;refine b0e ?_;intros;refine yR [1,7,8,9] ⟨?_⟩;refine b0i ?_;intros;refine b08 (fun i=>⟨[(1,.int .i64 x),(7,.sl (l.map (V.int .i64))),(8,.int .i64 l.length),(9,.int .i64 (Nat.cast i))],[],false,17,0⟩) (fun i=>i≤l.length∧(x∈l.drop i↔x∈l)) (fun i=>l.length - i) 0 ?_ ?_ ?_
 ·refine b2a [1,7,8,9] ?_;simp only [b02,b0n,b0l,b0j,b0u,Nat.reduceEqDiff,reduceIte];rfl
 ·exact ⟨qle _,Iff.rfl⟩
 ·rintro i hok5 Q5 n5 e5 r5;obtain ⟨hi1,hR⟩:=hok5;refine yR [1,7,8,9,10] ⟨?_⟩;refine b0e ?_;intros;refine b0a _ rfl ?_ ?_
  ·intro hc0;have hlt:i < l.length:=by omega
   obtain ⟨y,hy⟩:∃y,l[i]? =some y:=⟨l[i],qla hlt⟩;have hst:x∈l.drop i↔(x=y∨x∈l.drop (i+1)):=by rw [b1h hy,qlt]
   refine zn [1,7,8,9] ⟨?_⟩;refine b0e ?_;intros;refine b0i ?_;intros;have F:=Fc.mk (gdm hy);refine yR [1,6,7,8,9] ⟨?_⟩;refine yR [1,7,8,9,15] ⟨?_⟩;refine b0a _ rfl ?_ ?_
   ·intro hc1;refine yR [4] ⟨?_⟩;refine zr ⟨?_⟩;exact b0g rfl (by rw [decide_eq_true (hR.1 (hst.2 (.inl hc1.symm)))]) (.inl rfl)
   ·intro hc1;refine zn [1,7,8,9] ⟨?_⟩;refine yV ⟨?_⟩;refine n5 _ (i+1) ?_ ?_ ?_
    ·refine b2a [1,7,8,9] ?_;simp only [b02,b0n,b0l,b0j,b0u,Nat.reduceEqDiff,reduceIte];rfl
    ·exact ⟨by omega,hR.symm.trans (hst.trans ⟨fun h=>h.elim (fun q=>absurd q.symm hc1) id,.inr⟩) |>.symm⟩
    ·show _ < _;omega
  ·intro hc0;refine zn [] ⟨?_⟩;refine yR [4] ⟨?_⟩;refine zr ⟨?_⟩;exact b0g rfl (by rw [decide_eq_false (fun h=>by have:=hR.2 h;rw [ql5 (by omega)] at this;cases this)]) (.inl rfl)
def d2q (s:ByteArray) (i:Nat):Bool:=(decide (97≤b2e s i) && decide (b2e s i≤122)) || ((decide (48≤b2e s i) && decide (b2e s i≤57)) && !decide (i=0))
def b4t (s:ByteArray):Bool:=(List.range s.size).all (d2q s) && (decide (1≤(s.size:Int)) && decide ((s.size:Int)≤6))
theorem d8m {s:ByteArray} {i:Nat} (hi:i < s.size) (h:d2q s i=false):b4t s=false:=by
  have:(List.range s.size).all (d2q s)=false:=by
    rw [List.all_eq_false];exact ⟨i,qmb.2 hi,by rw [h];simp⟩
  rw [b4t,this];rfl
theorem d46 {s:ByteArray} {i:Nat} (hi:s.size≤i) (h:∀j,j < i→d2q s j=true):b4t s=(decide (1≤(s.size:Int)) && decide ((s.size:Int)≤6)):=by
  have:(List.range s.size).all (d2q s)=true:=by
    rw [qlf];intro j hj;exact h j (qmi (qmb.1 hj) hi)
  rw [b4t,this];rfl
theorem f2t {s:ByteArray} {i:Nat} (h:∀j,j < i→d2q s j=true) (hi:d2q s i=true):∀j,j < i+1→d2q s j=true:=by
  intro j hj;rcases qmf j i with q | q
  · exact h j q
  · have:j=i:=by omega
    subst this;exact hi
theorem c4k (s:ByteArray) (hs:s.size≤9223372036854775807):Con Tryz.prog 60 [.str s] [] (.bool (b4t s)) []:=by
 refine zcn [.tmp 2] [] Tryz.func60 Tryz.ntmps60 ⟨?_⟩;intro Q0 n0 r0;have T:=tq4 Ty.t3 Ty.t4 Ty.t5 Ty.t9;have F:=Fc.mk True.intro;refine yR [0] ⟨?_⟩;refine b0e ?_;intros;refine yR [0,3] ⟨?_⟩;refine b0i ?_;intros;refine b08 (fun i=>⟨[(0,.str s),(3,.int .i64 (Nat.cast i))],[],false,45,0⟩) (fun i=>i≤s.size∧∀j,j < i→d2q s j=true) (fun i=>s.size - i) 0 ?_ ?_ ?_
 ·refine b2a [0,3] ?_;simp only [b02,b0n,b0l,b0j,b0u,Nat.reduceEqDiff,reduceIte];rfl
 ·exact ⟨qle _,fun j h=>absurd h (Nat.not_lt_zero _)⟩
 ·rintro i hok5 Q5 n5 e5 r5;obtain ⟨hi1,hR⟩:=hok5;refine b0e ?_;intros;refine yR [0,3,9] ⟨?_⟩;refine b0a _ rfl ?_ ?_
  ·intro hc0;have hlt:i < s.size:=by omega
   refine zn [0,3] ⟨?_⟩;refine b0e ?_;intros;refine b0i ?_;intros;refine yR [0,3,4] ⟨?_⟩;refine yR [0,3,4,5] ⟨?_⟩;refine yR [0,3,41] ⟨?_⟩;refine b0a _ rfl ?_ ?_
   ·intro hc1;have hbad:d2q s i=false:=by simp only [d2q,Bool.or_eq_false_iff,Bool.and_eq_false_imp,decide_eq_true_eq,decide_eq_false_iff_not,Bool.not_eq_false',Bool.and_eq_true];omega
    refine yR [2] ⟨?_⟩;refine zr ⟨?_⟩;exact b0g rfl (by rw [d8m hlt hbad]) (.inl rfl)
   ·intro hc1;have hgood:d2q s i=true:=by simp only [d2q,Bool.or_eq_true,Bool.and_eq_true,decide_eq_true_eq,Bool.not_eq_true',decide_eq_false_iff_not];omega
    refine zn [0,3] ⟨?_⟩;refine yV ⟨?_⟩;refine n5 _ (i+1) ?_ ?_ ?_
    ·refine b2a [0,3] ?_;simp only [b02,b0n,b0l,b0j,b0u,Nat.reduceEqDiff,reduceIte];rfl
    ·exact ⟨by omega,f2t hR hgood⟩
    ·show _ < _;omega
  ·intro hc0;refine zn [0] ⟨?_⟩;refine yRc [2] (b2w _ _ _) ⟨?_⟩;refine zr ⟨?_⟩;exact b0g rfl (by rw [d46 (by omega) hR]) (.inl rfl)
theorem c1y (s:ByteArray) (hs:s.size≤9223372036854775807):Con Tryz.prog 56 [.str s] [] (.bool (b4t s)) []:=by
 refine zcn [.tmp 2] [] Tryz.func56 Tryz.ntmps56 ⟨?_⟩;intro Q0 n0 r0;have T:=tq4 Ty.t3 Ty.t4 Ty.t5 Ty.t9;have F:=Fc.mk True.intro;refine yR [0] ⟨?_⟩;refine b0e ?_;intros;refine yR [0,7,8] ⟨?_⟩;refine b0i ?_;intros;refine b08 (fun i=>⟨[(0,.str s),(7,.int .i64 s.size),(8,.int .i64 (Nat.cast i))],[],false,45,0⟩) (fun i=>i≤s.size∧∀j,j < i→d2q s j=true) (fun i=>s.size - i) 0 ?_ ?_ ?_
 ·refine b2a [0,7,8] ?_;simp only [b02,b0n,b0l,b0j,b0u,Nat.reduceEqDiff,reduceIte];rfl
 ·exact ⟨qle _,fun j h=>absurd h (Nat.not_lt_zero _)⟩
 ·rintro i hok5 Q5 n5 e5 r5;obtain ⟨hi1,hR⟩:=hok5;refine yR [0,7,8,9] ⟨?_⟩;refine b0e ?_;intros;refine b0a _ rfl ?_ ?_
  ·intro hc0;have hlt:i < s.size:=by omega
   refine zn [0,7,8] ⟨?_⟩;refine b0e ?_;intros;refine b0i ?_;intros;refine yR [0,3,7,8] ⟨?_⟩;refine b0e ?_;intro Q12 n12 e12 r12;refine b1f (by kernel_rfl) ?_;intro K13 q13 k13;show b1r _ _ _ _ 22 (Array.replicate 22 false) _;refine b0t q13 true 0 11 ?_;refine b0t q13 true 1 12 ?_;refine f11 q13 true 2 13 ?_;refine b19 q13 true 3 14 ?_;refine b0t q13 true 4 15 ?_;refine b0z q13 true 5 16 ?_;refine b0z q13 true 6 17 ?_;refine c10 q13 true 7 18 ?_;refine b0y q13 true 8 19 ?_;refine b1p q13 true 9 20 ?_;refine b0t q13 true 10 21 ?_;refine b0t q13 true 11 22 ?_;refine f11 q13 true 12 23 ?_;refine b19 q13 true 13 24 ?_;refine b0t q13 true 14 25 ?_;refine b0z q13 true 15 26 ?_;refine b0z q13 true 16 27 ?_;refine c10 q13 true 17 28 ?_;refine b0y q13 true 18 29 ?_;refine b1p q13 true 19 30 ?_;refine b0p 20 ⟨?_⟩;refine b0p 21 ⟨?_⟩;refine b0b (by kernel_rfl) ?_;refine k13 _ ?_;refine n12 _ _ (b0f [0,3,4,5,7,8] _) ?_;refine zk ⟨?_⟩;refine yR [0,7,8,40] ⟨?_⟩;refine b0a _ rfl ?_ ?_
   ·intro hc1;have hbad:d2q s i=false:=by simp only [d2q,Bool.or_eq_false_iff,Bool.and_eq_false_imp,decide_eq_true_eq,decide_eq_false_iff_not,Bool.not_eq_false',Bool.and_eq_true];omega
    refine yR [2] ⟨?_⟩;refine zr ⟨?_⟩;exact b0g rfl (by rw [d8m hlt hbad]) (.inl rfl)
   ·intro hc1;have hgood:d2q s i=true:=by simp only [d2q,Bool.or_eq_true,Bool.and_eq_true,decide_eq_true_eq,Bool.not_eq_true',decide_eq_false_iff_not];omega
    refine zn [0,7,8] ⟨?_⟩;refine yV ⟨?_⟩;refine n5 _ (i+1) ?_ ?_ ?_
    ·refine b2a [0,7,8] ?_;simp only [b02,b0n,b0l,b0j,b0u,Nat.reduceEqDiff,reduceIte];rfl
    ·exact ⟨by omega,f2t hR hgood⟩
    ·show _ < _;omega
  ·intro hc0;refine zn [0] ⟨?_⟩;refine yRc [2] (b4d _ _ _) ⟨?_⟩;refine zr ⟨?_⟩;exact b0g rfl (by rw [d46 (by omega) hR]) (.inl rfl)
theorem c3z (a:Int):Con Tryz.prog 173 [V.int .i64 a] [] (.bool false) []:=by
 refine zcn [.tmp 2] [] Tryz.func173 Tryz.ntmps173 ⟨?_⟩;intro Q0 n0 r0;have T:=Tys.mk Ty.t3;have F:=Fc.mk True.intro;refine yR [0] ⟨?_⟩;refine yR [2] ⟨?_⟩;refine zr ⟨?_⟩;exact b0g rfl (by first | rfl | simp) (.inl rfl)
def f5q (a b:Int):Int:=if a < b then -1 else if b < a then 1 else 0
def orL:List Int→Int
  | []=>0
  | x::l=>if x≠0 then x else orL l
theorem f7d {l:List Int} {i:Nat} {x:Int} (h:l[i]? =some x):orL (l.drop i)=if x≠0 then x else orL (l.drop (i+1)):=by
  rw [b1h h,orL]
theorem f8w {l:List Int} {i:Nat} (h:l.length≤i):orL (l.drop i)=0:=by
  rw [ql5 h,orL]
theorem d0x (a b:Int):Con Tryz.prog 141 [.int .i64 a,.int .i64 b] [] (.int .i64 (f5q a b)) []:=by
 refine zcn [.tmp 4] [] Tryz.func141 Tryz.ntmps141 ⟨?_⟩;intro Q0 n0 r0;have T:=tq2 Ty.t3 Ty.t4;have F:=Fc.mk True.intro;refine yR [0,1] ⟨?_⟩;refine yRc [0,1,5] (c3z _) ⟨?_⟩;refine yRc [0,1,5,6] (c3z _) ⟨?_⟩;refine b0e ?_;intros;refine yR [0,1,6,11] ⟨?_⟩;refine b18 _ rfl ?_ ?_
 ·intro hc0;exfalso;simp at hc0
 ·intro hc0;try simp only [zC,reduceCtorEq] at hc0
  refine zn [0,1,6] ⟨?_⟩;refine b0e ?_;intros;refine yR [0,1,13] ⟨?_⟩;refine b18 _ rfl ?_ ?_
  ·intro hc1;exfalso;simp at hc1
  ·intro hc1;try simp only [zC,reduceCtorEq] at hc1
   refine zn [0,1] ⟨?_⟩;refine b0e ?_;intros;refine yR [0,1,16] ⟨?_⟩;refine b0a _ rfl ?_ ?_
   ·intro hc2;refine yR [4] ⟨?_⟩;refine zr ⟨?_⟩;exact b0g rfl (by rw [f5q,if_pos hc2]) (.inl rfl)
   ·intro hc2;refine zn [0,1] ⟨?_⟩;refine b0e ?_;intros;refine yR [19] ⟨?_⟩;refine b0a _ rfl ?_ ?_
    ·intro hc3;refine yR [4] ⟨?_⟩;refine zr ⟨?_⟩;exact b0g rfl (by rw [f5q,if_neg (by omega),if_pos hc3]) (.inl rfl)
    ·intro hc3;refine zn [] ⟨?_⟩;refine yR [4] ⟨?_⟩;refine zr ⟨?_⟩;exact b0g rfl (by rw [f5q,if_neg (by omega),if_neg (by omega)]) (.inl rfl)
theorem f28 (l:List Int) (hl:l.length≤1048576):Con Tryz.prog 140 [.sl (l.map (V.int .i64))] [] (.int .i64 (orL l)) []:=by
 refine zcn [.tmp 2] [] Tryz.func140 Tryz.ntmps140 ⟨?_⟩;intro Q0 n0 r0;have T:=tq2 Ty.t3 Ty.t35;have F:=Fc.mk True.intro;refine yR [0] ⟨?_⟩;refine yR [0,3] ⟨?_⟩;refine b0e ?_;intros;refine yR [3,6,7,8] ⟨?_⟩;refine b0i ?_;intros;refine b08 (fun i=>⟨[(3,.int .i64 0),(6,.sl (l.map (V.int .i64))),(7,.int .i64 l.length),(8,.int .i64 (Nat.cast i))],[],false,18,0⟩) (fun i=>i≤l.length∧orL (l.drop i)=orL l) (fun i=>l.length - i) 0 ?_ ?_ ?_
 ·refine b2a [3,6,7,8] ?_;simp only [b02,b0n,b0l,b0j,b0u,Nat.reduceEqDiff,reduceIte];rfl
 ·exact ⟨qle _,rfl⟩
 ·rintro i hok6 Q6 n6 e6 r6;obtain ⟨hi1,hR⟩:=hok6;refine yR [3,6,7,8,9] ⟨?_⟩;refine b0e ?_;intros;refine b0a _ rfl ?_ ?_
  ·intro hc0;have hlt:i < l.length:=by omega
   obtain ⟨y,hy⟩:∃y,l[i]? =some y:=⟨l[i],qla hlt⟩;have hst:=f7d hy;refine zn [3,6,7,8] ⟨?_⟩;refine b0e ?_;intros;refine b0i ?_;intros;have F:=Fc.mk (gdm hy);refine yR [3,5,6,7,8] ⟨?_⟩;refine yR [3,5,6,7,8,14] ⟨?_⟩;refine b0a _ rfl ?_ ?_
   ·intro hc1;refine yR [2] ⟨?_⟩;refine zr ⟨?_⟩;exact b0g rfl (by rw [←hR,hst,if_pos hc1]) (.inl rfl)
   ·intro hc1;refine zn [3,6,7,8] ⟨?_⟩;refine yV ⟨?_⟩;refine n6 _ (i+1) ?_ ?_ ?_
    ·refine b2a [3,6,7,8] ?_;simp only [b02,b0n,b0l,b0j,b0u,Nat.reduceEqDiff,reduceIte];rfl
    ·exact ⟨by omega,by rw [←hR,hst,if_neg (by simp [hc1])]⟩
    ·show _ < _;omega
  ·intro hc0;refine zn [3] ⟨?_⟩;refine yR [2] ⟨?_⟩;refine zr ⟨?_⟩;exact b0g rfl (by rw [←hR,f8w (by omega)]) (.inl rfl)
def b2i {α:Type} (ok:α→Bool) (bf:α→α→Bool):Option α→List α→Bool
  | _,[]=>true
  | none,x::l=>ok x && b2i ok bf (some x) l
  | some p,x::l=>ok x && bf p x && b2i ok bf (some x) l
def b1v {α:Type} (ok:α→Bool) (bf:α→α→Bool) (l:List α) (i:Nat):Bool:=b2i ok bf (if i=0 then none else l[i - 1]?) (l.drop i)
theorem b7y {α:Type} {ok:α→Bool} {bf:α→α→Bool} {l:List α} {x:α} (h:l[0]? =some x):b1v ok bf l 0=(ok x && b1v ok bf l 1):=by
  simp only [b1v,b1h h,if_true,b2i];simp [h]
theorem b76 {α:Type} {ok:α→Bool} {bf:α→α→Bool} {l:List α} {x y:α} {i:Nat} (h0:0 < i) (hy:l[i - 1]? =some y) (h:l[i]? =some x):b1v ok bf l i=(ok x && bf y x && b1v ok bf l (i+1)):=by
  simp only [b1v,b1h h,hy,show ¬i=0 by omega,if_false,b2i];simp [h]
theorem b9f {α:Type} {ok:α→Bool} {bf:α→α→Bool} {l:List α} {i:Nat} (h:l.length≤i):b1v ok bf l i=true:=by
  simp only [b1v,List.drop_of_length_le h];split<;>rfl
theorem c6a {α:Type} {ok:α→Bool} {bf:α→α→Bool}:∀{l:List α} {p:Option α},b2i ok bf p l=true→∀x∈l,ok x=true
  | [],_,_,x,hx=>by cases hx
  | y ::l,p,h,x,hx=>by
    have h2:ok y=true∧b2i ok bf (some y) l=true:=by
      cases p<;>simp [b2i] at h<;>simp [h]
    rcases qlt.1 hx with rfl | h3
    · exact h2.1
    · exact c6a h2.2 x h3
theorem d1y {α:Type} {ok:α→Bool} {bf:α→α→Bool} {l:List α} (h:b1v ok bf l 0=true):∀x∈l,ok x=true:=c6a h
theorem b81 (a:ByteArray):b2x a a=false:=by
  unfold b2x;generalize a.toList=l
  induction l with
  | nil=>rfl
  | cons x l ih=>simp [Op.bytesLess,ih]
theorem c65 (l:List Int) (lo hi:Int) (hl:l.length≤1048576):Con Tryz.prog 139 [.sl (l.map (V.int .i64)),.int .i64 lo,.int .i64 hi] [] (.bool (l.all (fun x=>inR x lo hi))) []:=by
 refine zcn [.tmp 6] [] Tryz.func139 Tryz.ntmps139 ⟨?_⟩;intro Q0 n0 r0;have T:=tq3 Ty.t3 Ty.t4 Ty.t35;have F:=Fc.mk True.intro;refine yR [0,1,2] ⟨?_⟩;refine b0e ?_;intros;refine yR [1,2,9,10,11] ⟨?_⟩;refine b0i ?_;intros;refine b08 (fun i=>⟨[(1,.int .i64 lo),(2,.int .i64 hi),(9,.sl (l.map (V.int .i64))),(10,.int .i64 l.length),(11,.int .i64 (Nat.cast i))],[],false,21,0⟩) (fun i=>i≤l.length∧l.all (fun x=>inR x lo hi)=(l.drop i).all (fun x=>inR x lo hi)) (fun i=>l.length - i) 0 ?_ ?_ ?_
 ·refine b2a [1,2,9,10,11] ?_;simp only [b02,b0n,b0l,b0j,b0u,Nat.reduceEqDiff,reduceIte];rfl
 ·exact ⟨qle _,by simp⟩
 ·rintro i hok5 Q5 n5 e5 r5;obtain ⟨hi1,hR⟩:=hok5;refine yR [1,2,9,10,11,12] ⟨?_⟩;refine b0e ?_;intros;refine b0a _ rfl ?_ ?_
  ·intro hc0;have hlt:i < l.length:=by omega
   obtain ⟨x,hx⟩:∃x,l[i]? =some x:=⟨l[i],qla hlt⟩;have hst:=f5e (f:=(fun x=>inR x lo hi)) hx;refine zn [1,2,9,10,11] ⟨?_⟩;refine b0e ?_;intros;refine b0i ?_;intros;have F:=Fc.mk (gdm hx);refine yR [1,2,8,9,10,11] ⟨?_⟩;refine yRc [1,2,9,10,11,19] (b2w _ _ _) ⟨?_⟩;refine b0a _ rfl ?_ ?_
   ·intro hc1;have hb:inR x lo hi=false:=by cases hq:inR x lo hi with | false=>rfl | true=>(exfalso;simp [inR] at hq;have:=hc1 hq.1;omega)
    refine yR [6] ⟨?_⟩;refine zr ⟨?_⟩;exact b0g rfl (by rw [hR,hst,hb];rfl) (.inl rfl)
   ·intro hc1;have hb:inR x lo hi=true:=by rw [inR,decide_eq_true hc1.1,decide_eq_true hc1.2];rfl
    refine zn [1,2,9,10,11] ⟨?_⟩;refine yV ⟨?_⟩;refine n5 _ (i+1) ?_ ?_ ?_
    ·refine b2a [1,2,9,10,11] ?_;simp only [b02,b0n,b0l,b0j,b0u,Nat.reduceEqDiff,reduceIte];rfl
    ·exact ⟨by omega,by rw [hR,hst,hb];simp⟩
    ·show _ < _;omega
  ·intro hc0;refine zn [] ⟨?_⟩;refine yR [6] ⟨?_⟩;refine zr ⟨?_⟩;exact b0g rfl (by rw [hR,ql5 (by omega)];rfl) (.inl rfl)
end Go.Proofs.YtmbbjhopngejaaaGreatDoor
