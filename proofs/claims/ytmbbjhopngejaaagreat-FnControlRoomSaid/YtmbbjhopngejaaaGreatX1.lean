/- What functions compute. No condition. -/
import Derived.Test.YtmbbjhopngejaaaGreatUz
import Derived.Test.YtmbbjhopngejaaaGreatUty
import Derived.Test.YtmbbjhopngejaaaGreatShelf
set_option linter.all false
open Bool renaming and_eq_true → Za, and_eq_false_imp → Zc, or_eq_false_iff → Zd
open Nat renaming cast → Zb
namespace Go.Proofs.YtmbbjhopngejaaaGreat
open Go Go.Vm Tryz
set_option maxHeartbeats 8000000
theorem b2p (n lo hi:Int):Con prog 84 [.int .i64 n,.int .i64 lo,.int .i64 hi] [] (.bool (decide (lo≤n) && decide (n≤hi))) []:=by
 apply zcn [.tmp 6] [] func84 ntmps84;intro _ _ _;have T:=Tys.mk Y3;have F:=Fc.mk True.intro;apply yR [0,1,2];apply yR [6];apply (zr);exact b0h rfl (by first | rfl | simp) (.inl rfl)
theorem b21 (n lo hi:Int):Con prog 106 [.int .i64 n,.int .i64 lo,.int .i64 hi] [] (.bool (decide (lo≤n) && decide (n≤hi))) []:=by
 apply zcn [.tmp 6] [] func106 ntmps106;intro _ _ _;have T:=Tys.mk Y3;have F:=Fc.mk True.intro;apply yR [0,1,2];apply yR [6];apply (zr);exact b0h rfl (by first | rfl | simp) (.inl rfl)
theorem b1p {α:Type} {l:List α} {i:Nat} {x:α} (h:l[i]? =some x):l.drop i=x::l.drop (i+1):=by
  obtain ⟨hi,rfl⟩:=qlc.1 h;exact List.drop_eq_getElem_cons hi
theorem f6b {α:Type} {f:α→Bool} {l:List α} {i:Nat} {x:α} (h:l[i]? =some x):(l.drop i).all f=(f x && (l.drop (i+1)).all f):=by
  rw [b1p h,List.all_cons]
theorem f1e {α β:Type} {f:β→α→β} {l:List α} {i:Nat} {x:α} (h:l[i]? =some x) (b:β):(l.drop i).foldl f b=(l.drop (i+1)).foldl f (f b x):=by
  rw [b1p h,List.foldl_cons]
theorem g3x {α β:Type} {f:β→α→β} {l:List α} {i:Nat} (h:l.length≤i) (b:β):(l.drop i).foldl f b=b:=by
  rw [ql4 h];rfl
theorem b47 {α:Type} {f:α→V} {l:List α} {i:Nat} {x:α}:(l.map f).set i (f x)=(l.set i x).map f:=(qmx).symm
def inR (n lo hi:Int):Bool:=decide (lo≤n) && decide (n≤hi)
def b9o (l:List Int) (a:Int):Int:=l.foldl (fun m x=>if x > m then x else m) a
theorem f4c {l:List Int} {i:Nat} {x:Int} (h:l[i]? =some x) (m:Int):b9o (l.drop i) m=b9o (l.drop (i+1)) (if x > m then x else m):=f1e h m
theorem g4y {l:List Int} {i:Nat} (h:l.length≤i) (m:Int):b9o (l.drop i) m=m:=g3x h m
theorem c3v (a b:Int):Con prog 83 [.int .i64 a,.int .i64 b] [] (.int .i64 (if b < a then b else a)) []:=by
 apply zcn [.tmp 4] [] func83 ntmps83;intro _ _ _;have T:=Tys.mk Y3;have F:=Fc.mk True.intro;apply yR [0,1];apply b0e;intros;apply yR [0,1,7];apply b0c _ rfl
 ·intro hc0;apply yR [4];apply (zr);exact b0h rfl (by congr 1;split<;>omega) (.inl rfl)
 ·intro hc0;apply zn [1];apply yR [4];apply (zr);exact b0h rfl (by congr 1;split<;>omega) (.inl rfl)
theorem c53 (a b:Int):Con prog 82 [.int .i64 a,.int .i64 b] [] (.int .i64 (if b > a then b else a)) []:=by
 apply zcn [.tmp 4] [] func82 ntmps82;intro _ _ _;have T:=Tys.mk Y3;have F:=Fc.mk True.intro;apply yR [0,1];apply b0e;intros;apply yR [0,1,7];apply b0c _ rfl
 ·intro hc0;apply yR [4];apply (zr);exact b0h rfl (by congr 1;split<;>omega) (.inl rfl)
 ·intro hc0;apply zn [1];apply yR [4];apply (zr);exact b0h rfl (by congr 1;split<;>omega) (.inl rfl)
theorem c40 (x:Int) (l:List Int) (hl:(x::l).length≤1048576):Con prog 40 [.sl ((x::l).map (V.int .i64))] [] (.int .i64 (b9o l x)) []:=by
 obtain ⟨xl,hxl⟩:∃xl,xl=x::l:=⟨_,rfl⟩;have h0:xl[0]? =some x:=by rw [hxl];rfl
 have hres:b9o (xl.drop 1) x=b9o l x:=by rw [hxl];rfl
 rw [←hxl] at hl⊢;rw [←hres];have hpos:0 < xl.length:=by rw [hxl];simp
 apply zcn [.tmp 2] [] func40 ntmps40;intro _ _ _;have T:=tq2 Y3 Y41;have F:=Fc.mk True.intro;have F:=Fc.mk (gdm h0);apply yR [0];apply b0e;intros;apply yR [0,7];apply b2a _ rfl
 ·intro hc0;exfalso;have hq:=of_decide_eq_true hc0;omega
 ·intro hc0;try simp only [zC,reduceCtorEq] at hc0
  apply zn [0];apply yR [0,3];apply b0e;intros;apply yR [0,3,4];apply b0g;intros;apply b05 (fun p=>⟨[(0,.sl (xl.map (V.int .i64))),(3,.int .i64 p.2),(4,.int .i64 (Zb p.1))],[],false,25,0⟩) (fun p=>1≤p.1∧p.1≤xl.length∧b9o (xl.drop p.1) p.2=b9o (xl.drop 1) x) (fun p=>xl.length - p.1) ((1,x):Nat×Int)
  ·refine b18 [0,3,4] ?_;simp only [b0r,b0k,b0i,b0f,b0n,Nat.reduceEqDiff,reduceIte];rfl
  ·exact ⟨qly _,hpos,rfl⟩
  ·rintro p hok9 Q9 n9 e9 r9;obtain ⟨hi0,hi1,hR⟩:=hok9;apply b0e;intros;apply yR [0,3,4,15];apply b0c _ rfl
   ·intro hc1;have hlt:p.1 < xl.length:=by omega
    obtain ⟨y,hy⟩:∃y,xl[p.1]? =some y:=⟨xl[p.1],qla hlt⟩;apply zn [0,3,4];apply b0e;intros;apply b0g;intros;have F:=fq2 (gdm h0) (gdm hy);apply yQ [0,3,4];apply (yV);apply n9 _ (p.1+1,if y > p.2 then y else p.2)
    ·refine b18 [0,3,4] ?_;simp only [b0r,b0k,b0i,b0f,b0n,Nat.reduceEqDiff,reduceIte];rfl
    ·exact ⟨by show 1≤p.1+1;omega,by show p.1+1≤_;omega,by show b9o (xl.drop (p.1+1)) _=_;rw [←hR,f4c hy]⟩
    ·show _ < _;show xl.length - (p.1+1) < _;omega
   ·intro hc1;apply zn [3];apply yR [2];apply (zr);exact b0h rfl (by rw [←hR,g4y (by omega)]) (.inl rfl)
theorem c2u {α:Type} {f:α→Bool} {l:List α} {i:Nat} {x:α} (h:l[i]? =some x):(l.drop i).any f=(f x || (l.drop (i+1)).any f):=by
  rw [b1p h,List.any_cons]
theorem c6f {α:Type} {f:α→Bool} {l:List α} {i:Nat} (h:l.length≤i):(l.drop i).any f=false:=by
  rw [ql4 h];rfl
theorem d54 (l:List Int) (x:Int) (hl:l.length≤1048576):Con prog 151 [.sl (l.map (V.int .i64)),.int .i64 x] [] (.bool (decide (x∈l))) []:=by
 apply zcn [.tmp 4] [] func151 ntmps151;intro _ _ _;have T:=tq2 Y3 Y41;have F:=Fc.mk True.intro;apply yR [0,1];apply b0e;intros;apply yR [1,7,8,9];apply b0g;intros;apply b05 (fun i=>⟨[(1,.int .i64 x),(7,.sl (l.map (V.int .i64))),(8,.int .i64 l.length),(9,.int .i64 (Zb i))],[],false,17,0⟩) (fun i=>i≤l.length∧(x∈l.drop i↔x∈l)) (fun i=>l.length - i) 0
 ·refine b18 [1,7,8,9] ?_;simp only [b0r,b0k,b0i,b0f,b0n,Nat.reduceEqDiff,reduceIte];rfl
 ·exact ⟨qle _,Iff.rfl⟩
 ·rintro i hok5 Q5 n5 e5 r5;obtain ⟨hi1,hR⟩:=hok5;apply yR [1,7,8,9,10];apply b0e;intros;apply b0c _ rfl
  ·intro hc0;have hlt:i < l.length:=by omega
   obtain ⟨y,hy⟩:∃y,l[i]? =some y:=⟨l[i],qla hlt⟩;have hst:x∈l.drop i↔(x=y∨x∈l.drop (i+1)):=by rw [b1p hy,qlv]
   apply zn [1,7,8,9];apply b0e;intros;apply b0g;intros;have F:=Fc.mk (gdm hy);apply yR [1,6,7,8,9];apply yR [1,7,8,9,15];apply b0c _ rfl
   ·intro hc1;apply yR [4];apply (zr);exact b0h rfl (by rw [decide_eq_true (hR.1 (hst.2 (.inl hc1.symm)))]) (.inl rfl)
   ·intro hc1;apply zn [1,7,8,9];apply (yV);apply n5 _ (i+1)
    ·refine b18 [1,7,8,9] ?_;simp only [b0r,b0k,b0i,b0f,b0n,Nat.reduceEqDiff,reduceIte];rfl
    ·exact ⟨by omega,hR.symm.trans (hst.trans ⟨fun h=>h.elim (fun q=>absurd q.symm hc1) id,.inr⟩) |>.symm⟩
    ·show _ < _;omega
  ·intro hc0;apply zn [];apply yR [4];apply (zr);exact b0h rfl (by rw [decide_eq_false (fun h=>by have:=hR.2 h;rw [ql4 (by omega)] at this;cases this)]) (.inl rfl)
def d3t (s:ByteArray) (i:Nat):Bool:=(decide (97≤b2q s i) && decide (b2q s i≤122)) || ((decide (48≤b2q s i) && decide (b2q s i≤57)) && !decide (i=0))
def b6a (s:ByteArray):Bool:=(List.range s.size).all (d3t s) && (decide (1≤(s.size:Int)) && decide ((s.size:Int)≤6))
theorem d88 {s:ByteArray} {i:Nat} (hi:i < s.size) (h:d3t s i=false):b6a s=false:=by
  have:(List.range s.size).all (d3t s)=false:=by
    rw [List.all_eq_false];exact ⟨i,qmc.2 hi,by rw [h];simp⟩
  rw [b6a,this];rfl
theorem d4g {s:ByteArray} {i:Nat} (hi:s.size≤i) (h:∀j,j < i→d3t s j=true):b6a s=(decide (1≤(s.size:Int)) && decide ((s.size:Int)≤6)):=by
  have:(List.range s.size).all (d3t s)=true:=by
    rw [qlk];intro j hj;exact h j (qm1 (qmc.1 hj) hi)
  rw [b6a,this];rfl
theorem f2i {s:ByteArray} {i:Nat} (h:∀j,j < i→d3t s j=true) (hi:d3t s i=true):∀j,j < i+1→d3t s j=true:=by
  intro j _;rcases qmk j i with q | q
  · exact h j q
  · have:j=i:=by omega
    subst this;exact hi
theorem d04 (s:ByteArray) (hs:s.size≤9223372036854775807):Con prog 180 [.str s] [] (.bool (b6a s)) []:=by
 apply zcn [.tmp 2] [] func180 ntmps180;intro _ _ _;have T:=tq4 Y3 Y4 Y5 Y9;have F:=Fc.mk True.intro;apply yR [0];apply b0e;intros;apply yR [0,3];apply b0g;intros;apply b05 (fun i=>⟨[(0,.str s),(3,.int .i64 (Zb i))],[],false,45,0⟩) (fun i=>i≤s.size∧∀j,j < i→d3t s j=true) (fun i=>s.size - i) 0
 ·refine b18 [0,3] ?_;simp only [b0r,b0k,b0i,b0f,b0n,Nat.reduceEqDiff,reduceIte];rfl
 ·exact ⟨qle _,fun j h=>absurd h (Nat.not_lt_zero _)⟩
 ·rintro i hok5 Q5 n5 e5 r5;obtain ⟨hi1,hR⟩:=hok5;apply b0e;intros;apply yR [0,3,9];apply b0c _ rfl
  ·intro hc0;have hlt:i < s.size:=by omega
   apply zn [0,3];apply b0e;intros;apply b0g;intros;apply yR [0,3,4];apply yR [0,3,4,5];apply yR [0,3,41];apply b0c _ rfl
   ·intro hc1;have hbad:d3t s i=false:=by simp only [d3t,Zd,Zc,decide_eq_true_eq,decide_eq_false_iff_not,Bool.not_eq_false',Za];omega
    apply yR [2];apply (zr);exact b0h rfl (by rw [d88 hlt hbad]) (.inl rfl)
   ·intro hc1;have hgood:d3t s i=true:=by simp only [d3t,Bool.or_eq_true,Za,decide_eq_true_eq,Bool.not_eq_true',decide_eq_false_iff_not];omega
    apply zn [0,3];apply (yV);apply n5 _ (i+1)
    ·refine b18 [0,3] ?_;simp only [b0r,b0k,b0i,b0f,b0n,Nat.reduceEqDiff,reduceIte];rfl
    ·exact ⟨by omega,f2i hR hgood⟩
    ·show _ < _;omega
  ·intro hc0;apply zn [0];apply yRc [2] (b21 _ _ _);apply (zr);exact b0h rfl (by rw [d4g (by omega) hR]) (.inl rfl)
theorem c54 (s:ByteArray) (hs:s.size≤9223372036854775807):Con prog 158 [.str s] [] (.bool (b6a s)) []:=by
 apply zcn [.tmp 2] [] func158 ntmps158;intro _ _ _;have T:=tq4 Y3 Y4 Y5 Y9;have F:=Fc.mk True.intro;apply yR [0];apply b0e;intros;apply yR [0,7,8];apply b0g;intros;apply b05 (fun i=>⟨[(0,.str s),(7,.int .i64 s.size),(8,.int .i64 (Zb i))],[],false,45,0⟩) (fun i=>i≤s.size∧∀j,j < i→d3t s j=true) (fun i=>s.size - i) 0
 ·refine b18 [0,7,8] ?_;simp only [b0r,b0k,b0i,b0f,b0n,Nat.reduceEqDiff,reduceIte];rfl
 ·exact ⟨qle _,fun j h=>absurd h (Nat.not_lt_zero _)⟩
 ·rintro i hok5 Q5 n5 e5 r5;obtain ⟨hi1,hR⟩:=hok5;apply yR [0,7,8,9];apply b0e;intros;apply b0c _ rfl
  ·intro hc0;have hlt:i < s.size:=by omega
   apply zn [0,7,8];apply b0e;intros;apply b0g;intros;apply yR [0,3,7,8];apply b0e;intro _ n12 _ _;apply b1b (by kernel_rfl);intro _ q13 k13;show b13 _ _ _ _ 22 (Array.replicate 22 false) _;refine zdU q13 true 0 11 ?_;refine zdU q13 true 1 12 ?_;refine zdU q13 true 2 13 ?_;refine b2b q13 true 3 14 ?_;refine zdU q13 true 4 15 ?_;refine b1n q13 true 5 16 ?_;refine b1n q13 true 6 17 ?_;refine b1n q13 true 7 18 ?_;refine b0y q13 true 8 19 ?_;refine b1s q13 true 9 20 ?_;refine zdU q13 true 10 21 ?_;refine zdU q13 true 11 22 ?_;refine zdU q13 true 12 23 ?_;refine b2b q13 true 13 24 ?_;refine zdU q13 true 14 25 ?_;refine b1n q13 true 15 26 ?_;refine b1n q13 true 16 27 ?_;refine b1n q13 true 17 28 ?_;refine b0y q13 true 18 29 ?_;refine b1s q13 true 19 30 ?_;apply b0q 20;apply b0q 21;apply b0b (by kernel_rfl);apply k13 _;apply n12 _ _ (b0a [0,3,4,5,7,8] _);apply (zk);apply yR [0,7,8,40];apply b0c _ rfl
   ·intro hc1;have hbad:d3t s i=false:=by simp only [d3t,Zd,Zc,decide_eq_true_eq,decide_eq_false_iff_not,Bool.not_eq_false',Za];omega
    apply yR [2];apply (zr);exact b0h rfl (by rw [d88 hlt hbad]) (.inl rfl)
   ·intro hc1;have hgood:d3t s i=true:=by simp only [d3t,Bool.or_eq_true,Za,decide_eq_true_eq,Bool.not_eq_true',decide_eq_false_iff_not];omega
    apply zn [0,7,8];apply (yV);apply n5 _ (i+1)
    ·refine b18 [0,7,8] ?_;simp only [b0r,b0k,b0i,b0f,b0n,Nat.reduceEqDiff,reduceIte];rfl
    ·exact ⟨by omega,f2i hR hgood⟩
    ·show _ < _;omega
  ·intro hc0;apply zn [0];apply yRc [2] (b2p _ _ _);apply (zr);exact b0h rfl (by rw [d4g (by omega) hR]) (.inl rfl)
theorem c4h (a:Int):Con prog 156 [V.int .i64 a] [] (.bool false) []:=by
 apply zcn [.tmp 2] [] func156 ntmps156;intro _ _ _;have T:=Tys.mk Y3;have F:=Fc.mk True.intro;apply yR [0];apply yR [2];apply (zr);exact b0h rfl (by first | rfl | simp) (.inl rfl)
theorem c05 (a:ByteArray):Con prog 191 [V.str a] [] (.bool false) []:=by
 apply zcn [.tmp 2] [] func191 ntmps191;intro _ _ _;have T:=Tys.mk Y9;have F:=Fc.mk True.intro;apply yR [0];apply yR [2];apply (zr);exact b0h rfl (by first | rfl | simp) (.inl rfl)
def g22 (a b:Int):Int:=if a < b then -1 else if b < a then 1 else 0
def orL:List Int→Int
  | []=>0
  | x::l=>if x≠0 then x else orL l
theorem f9m {l:List Int} {i:Nat} {x:Int} (h:l[i]? =some x):orL (l.drop i)=if x≠0 then x else orL (l.drop (i+1)):=by
  rw [b1p h,orL]
theorem g0o {l:List Int} {i:Nat} (h:l.length≤i):orL (l.drop i)=0:=by
  rw [ql4 h,orL]
theorem c50 (a b:Int):Con prog 129 [.int .i64 a,.int .i64 b] [] (.int .i64 (g22 a b)) []:=by
 apply zcn [.tmp 4] [] func129 ntmps129;intro _ _ _;have T:=tq2 Y3 Y4;have F:=Fc.mk True.intro;apply yR [0,1];apply yRc [0,1,5] (c4h _);apply yRc [0,1,5,6] (c4h _);apply b0e;intros;apply yR [0,1,6,11];apply b2a _ rfl
 ·intro hc0;exfalso;simp at hc0
 ·intro hc0;try simp only [zC,reduceCtorEq] at hc0
  apply zn [0,1,6];apply b0e;intros;apply yR [0,1,13];apply b2a _ rfl
  ·intro hc1;exfalso;simp at hc1
  ·intro hc1;try simp only [zC,reduceCtorEq] at hc1
   apply zn [0,1];apply b0e;intros;apply yR [0,1,16];apply b0c _ rfl
   ·intro hc2;apply yR [4];apply (zr);exact b0h rfl (by rw [g22,if_pos hc2]) (.inl rfl)
   ·intro hc2;apply zn [0,1];apply b0e;intros;apply yR [19];apply b0c _ rfl
    ·intro hc3;apply yR [4];apply (zr);exact b0h rfl (by rw [g22,if_neg (by omega),if_pos hc3]) (.inl rfl)
    ·intro hc3;apply zn [];apply yR [4];apply (zr);exact b0h rfl (by rw [g22,if_neg (by omega),if_neg (by omega)]) (.inl rfl)
theorem f2v (l:List Int) (hl:l.length≤1048576):Con prog 128 [.sl (l.map (V.int .i64))] [] (.int .i64 (orL l)) []:=by
 apply zcn [.tmp 2] [] func128 ntmps128;intro _ _ _;have T:=tq2 Y3 Y41;have F:=Fc.mk True.intro;apply yR [0];apply yR [0,3];apply b0e;intros;apply yR [3,6,7,8];apply b0g;intros;apply b05 (fun i=>⟨[(3,.int .i64 0),(6,.sl (l.map (V.int .i64))),(7,.int .i64 l.length),(8,.int .i64 (Zb i))],[],false,18,0⟩) (fun i=>i≤l.length∧orL (l.drop i)=orL l) (fun i=>l.length - i) 0
 ·refine b18 [3,6,7,8] ?_;simp only [b0r,b0k,b0i,b0f,b0n,Nat.reduceEqDiff,reduceIte];rfl
 ·exact ⟨qle _,rfl⟩
 ·rintro i hok6 Q6 n6 e6 r6;obtain ⟨hi1,hR⟩:=hok6;apply yR [3,6,7,8,9];apply b0e;intros;apply b0c _ rfl
  ·intro hc0;have hlt:i < l.length:=by omega
   obtain ⟨y,hy⟩:∃y,l[i]? =some y:=⟨l[i],qla hlt⟩;have hst:=f9m hy;apply zn [3,6,7,8];apply b0e;intros;apply b0g;intros;have F:=Fc.mk (gdm hy);apply yR [3,5,6,7,8];apply yR [3,5,6,7,8,14];apply b0c _ rfl
   ·intro hc1;apply yR [2];apply (zr);exact b0h rfl (by rw [←hR,hst,if_pos hc1]) (.inl rfl)
   ·intro hc1;apply zn [3,6,7,8];apply (yV);apply n6 _ (i+1)
    ·refine b18 [3,6,7,8] ?_;simp only [b0r,b0k,b0i,b0f,b0n,Nat.reduceEqDiff,reduceIte];rfl
    ·exact ⟨by omega,by rw [←hR,hst,if_neg (by simp [hc1])]⟩
    ·show _ < _;omega
  ·intro hc0;apply zn [3];apply yR [2];apply (zr);exact b0h rfl (by rw [←hR,g0o (by omega)]) (.inl rfl)
def b2j {α:Type} (ok:α→Bool) (bf:α→α→Bool):Option α→List α→Bool
  | _,[]=>true
  | none,x::l=>ok x && b2j ok bf (some x) l
  | some p,x::l=>ok x && bf p x && b2j ok bf (some x) l
def b11 {α:Type} (ok:α→Bool) (bf:α→α→Bool) (l:List α) (i:Nat):Bool:=b2j ok bf (if i=0 then none else l[i - 1]?) (l.drop i)
theorem b77 {α:Type} {ok:α→Bool} {bf:α→α→Bool} {l:List α} {x:α} (h:l[0]? =some x):b11 ok bf l 0=(ok x && b11 ok bf l 1):=by
  simp only [b11,b1p h,if_true,b2j];simp [h]
theorem b78 {α:Type} {ok:α→Bool} {bf:α→α→Bool} {l:List α} {x y:α} {i:Nat} (h0:0 < i) (hy:l[i - 1]? =some y) (h:l[i]? =some x):b11 ok bf l i=(ok x && bf y x && b11 ok bf l (i+1)):=by
  simp only [b11,b1p h,hy,show ¬i=0 by omega,if_false,b2j];simp [h]
theorem b9u {α:Type} {ok:α→Bool} {bf:α→α→Bool} {l:List α} {i:Nat} (h:l.length≤i):b11 ok bf l i=true:=by
  simp only [b11,List.drop_of_length_le h];split<;>rfl
theorem c6y {α:Type} {ok:α→Bool} {bf:α→α→Bool}:∀{l:List α} {p:Option α},b2j ok bf p l=true→∀x∈l,ok x=true
  | [],_,_,x,hx=>by cases hx
  | y ::l,p,h,x,hx=>by
    have h2:ok y=true∧b2j ok bf (some y) l=true:=by
      cases p<;>simp [b2j] at h<;>simp [h]
    rcases qlv.1 hx with rfl | h3
    · exact h2.1
    · exact c6y h2.2 x h3
theorem d9i {α:Type} {ok:α→Bool} {bf:α→α→Bool} {l:List α} (h:b11 ok bf l 0=true):∀x∈l,ok x=true:=c6y h
theorem b7c (a:ByteArray):b2v a a=false:=by
  unfold b2v;generalize a.toList=l
  induction l with
  | nil=>rfl
  | cons x l ih=>simp [Op.bytesLess,ih]
theorem c5f (l:List Int) (lo hi:Int) (hl:l.length≤1048576):Con prog 46 [.sl (l.map (V.int .i64)),.int .i64 lo,.int .i64 hi] [] (.bool (l.all (fun x=>inR x lo hi))) []:=by
 apply zcn [.tmp 6] [] func46 ntmps46;intro _ _ _;have T:=tq3 Y3 Y4 Y41;have F:=Fc.mk True.intro;apply yR [0,1,2];apply b0e;intros;apply yR [1,2,9,10,11];apply b0g;intros;apply b05 (fun i=>⟨[(1,.int .i64 lo),(2,.int .i64 hi),(9,.sl (l.map (V.int .i64))),(10,.int .i64 l.length),(11,.int .i64 (Zb i))],[],false,21,0⟩) (fun i=>i≤l.length∧l.all (fun x=>inR x lo hi)=(l.drop i).all (fun x=>inR x lo hi)) (fun i=>l.length - i) 0
 ·refine b18 [1,2,9,10,11] ?_;simp only [b0r,b0k,b0i,b0f,b0n,Nat.reduceEqDiff,reduceIte];rfl
 ·exact ⟨qle _,by simp⟩
 ·rintro i hok5 Q5 n5 e5 r5;obtain ⟨hi1,hR⟩:=hok5;apply yR [1,2,9,10,11,12];apply b0e;intros;apply b0c _ rfl
  ·intro hc0;have hlt:i < l.length:=by omega
   obtain ⟨x,hx⟩:∃x,l[i]? =some x:=⟨l[i],qla hlt⟩;have hst:=f6b (f:=(fun x=>inR x lo hi)) hx;apply zn [1,2,9,10,11];apply b0e;intros;apply b0g;intros;have F:=Fc.mk (gdm hx);apply yR [1,2,8,9,10,11];apply yRc [1,2,9,10,11,19] (b21 _ _ _);apply b0c _ rfl
   ·intro hc1;have hb:inR x lo hi=false:=by cases hq:inR x lo hi with | false=>rfl | true=>(exfalso;simp [inR] at hq;have:=hc1 hq.1;omega)
    apply yR [6];apply (zr);exact b0h rfl (by rw [hR,hst,hb];rfl) (.inl rfl)
   ·intro hc1;have hb:inR x lo hi=true:=by rw [inR,decide_eq_true hc1.1,decide_eq_true hc1.2];rfl
    apply zn [1,2,9,10,11];apply (yV);apply n5 _ (i+1)
    ·refine b18 [1,2,9,10,11] ?_;simp only [b0r,b0k,b0i,b0f,b0n,Nat.reduceEqDiff,reduceIte];rfl
    ·exact ⟨by omega,by rw [hR,hst,hb];simp⟩
    ·show _ < _;omega
  ·intro hc0;apply zn [];apply yR [6];apply (zr);exact b0h rfl (by rw [hR,ql4 (by omega)];rfl) (.inl rfl)
def b2z (s:ByteArray) (b:Int):Nat→List ByteArray×Nat
  | 0=>([],0)
  | i+1=>if b2q s i=b then ((b2z s b i).1++[s.extract (b2z s b i).2 i],i+1) else b2z s b i
def g1h (s:ByteArray) (b:Int):Nat→Nat
  | 0=>0
  | i+1=>g1h s b i+(if b2q s i=b then 1 else 0)
theorem c6r (s:ByteArray) (b:Int):∀i,(b2z s b i).2≤i
  | 0=>qly _
  | i+1=>by
    have:=c6r s b i;rw [b2z];split
    · exact qly _
    · omega
theorem c5i (s:ByteArray) (b:Int):∀i,(b2z s b i).1.length=g1h s b i
  | 0=>rfl
  | i+1=>by
    have:=c5i s b i;rw [b2z,g1h];split<;>simp [this]
theorem d3b (s:ByteArray) (b:Int):∀i,g1h s b i≤i
  | 0=>qly _
  | i+1=>by
    have:=d3b s b i;rw [g1h];split<;>omega
theorem c3z (s:ByteArray) (b:Int) (hs:s.size≤4194304):Con prog 122 [.str s,.int .u8 b] [] (.ref 0) [.arr (((b2z s b s.size).1++[s.extract (b2z s b s.size).2 s.size]).map V.str) .flat]:=by
 apply zcn [.tmp 4] [] func122 ntmps122;intro _ _ _;have T:=tq4 Y3 Y5 Y9 Y48;have F:=Fc.mk True.intro;apply yR [0,1];apply yR [0,1,5];apply yR [0,1,5,6];apply b0e;intros;apply yR [0,1,5,6,7];apply b0g;intros;apply b05 (fun i=>⟨[(0,.str s),(1,.int .u8 b),(5,.ref 0),(6,.int .i64 (Zb (b2z s b i).2)),(7,.int .i64 (Zb i))],[.arr ((b2z s b i).1.map V.str) .flat],false,34,0⟩) (fun i=>i≤s.size) (fun i=>s.size - i) 0
 ·apply b0d [0,1,5,6,7] [1];rfl
 ·exact qle _
 ·rintro i hok7 Q7 n7 e7 r7;have hi1:i≤s.size:=hok7;apply b0e;intros;apply yR [0,1,5,6,7,11];apply b0c _ rfl
  ·intro hc0;have hlt:i < s.size:=by omega
   have hfr:=c6r s b i;have hsl:=c5i s b i;have hcl:=d3b s b i;have hal:(b2z s b i).1.length≤i:=by omega
   apply zn [0,1,5,6,7];apply b0e;intros;apply b0g;intros;apply yR [0,1,5,6,7,18];apply b0c _ rfl
   ·intro hc1;have hst1:b2z s b (i+1)=((b2z s b i).1++[s.extract (b2z s b i).2 i],i+1):=by rw [b2z,if_pos hc1]
    apply yR [0,1,5,7];apply yQ [0,1,5,6,7];apply (yV);apply n7 _ (i+1)
    ·apply b0d [0,1,5,6,7] [2];simp only [aQ,fQ,hst1,List.map_append,List.map_cons,List.map_nil];try rfl
    ·exact hlt
    ·show _ < _;omega
   ·intro hc1;have hst0:b2z s b (i+1)=b2z s b i:=by rw [b2z,if_neg hc1]
    apply zn [0,1,5,6,7];apply (yV);apply n7 _ (i+1)
    ·apply b0d [0,1,5,6,7] [0];simp only [hst0];rfl
    ·exact hlt
    ·show _ < _;omega
  ·intro hc0;have hend:i=s.size:=by omega
   subst hend;have hfr:=c6r s b s.size;have hsl:=c5i s b s.size;have hcl:=d3b s b s.size;have hal:(b2z s b s.size).1.length≤s.size:=by omega
   apply zn [0,5,6];apply yR [4];apply (zr);simp only [aQ,fQ,List.map_append,List.map_cons,List.map_nil];exact c0u rfl (.inl rfl)
end Go.Proofs.YtmbbjhopngejaaaGreat
