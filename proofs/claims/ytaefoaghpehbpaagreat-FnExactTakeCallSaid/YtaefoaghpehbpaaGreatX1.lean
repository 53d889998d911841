/- What functions compute. No condition. -/
import Derived.Test.YtaefoaghpehbpaaGreatUz
import Derived.Test.YtaefoaghpehbpaaGreatUty
import Derived.Test.YtaefoaghpehbpaaGreatUmG
set_option linter.unusedSimpArgs false
set_option linter.unusedVariables false
set_option linter.defProp false
namespace Go.Proofs.YtaefoaghpehbpaaGreat
open Go Go.Vm
set_option maxHeartbeats 8000000
theorem b2b (n lo hi:Int):Con Tryz.prog 129 [.int .i64 n,.int .i64 lo,.int .i64 hi] [] (.bool (decide (lo≤n) && decide (n≤hi))) []:=by
 refine b05 [.tmp 6] [] Tryz.func129 rfl rfl rfl (by simp [Tryz.ntmps129]) ?_
 intro Q0 n0 r0
 simp only [Tryz.ntmps129,b0l,Nat.reduceAdd]
 have T:=Tys.mk Ty.t3
 have F:=Fc.mk True.intro
 refine yR [0,1,2] ⟨?_⟩;refine yR [6] ⟨?_⟩;refine zr ⟨?_⟩
 exact b0a rfl (by first | rfl | simp) (.inl rfl)
theorem b2o (n lo hi:Int):Con Tryz.prog 157 [.int .i64 n,.int .i64 lo,.int .i64 hi] [] (.bool (decide (lo≤n) && decide (n≤hi))) []:=by
 refine b05 [.tmp 6] [] Tryz.func157 rfl rfl rfl (by simp [Tryz.ntmps157]) ?_
 intro Q0 n0 r0
 simp only [Tryz.ntmps157,b0l,Nat.reduceAdd]
 have T:=Tys.mk Ty.t3
 have F:=Fc.mk True.intro
 refine yR [0,1,2] ⟨?_⟩;refine yR [6] ⟨?_⟩;refine zr ⟨?_⟩
 exact b0a rfl (by first | rfl | simp) (.inl rfl)
theorem b0r {α:Type} {l:List α} {i:Nat} {x:α} (h:l[i]? =some x):l.drop i=x::l.drop (i+1):=by
  obtain ⟨hi,rfl⟩:=List.getElem?_eq_some_iff.1 h
  exact List.drop_eq_getElem_cons hi
theorem c2b {α:Type} [DecidableEq α] {a b:List α} {i:Nat} (h:a.length=b.length) {x y:α} (hx:a[i]? =some x) (hy:b[i]? =some y):(a.drop i=b.drop i)↔(x=y∧a.drop (i+1)=b.drop (i+1)):=by
  rw [b0r hx,b0r hy,List.cons.injEq]
theorem f25 {α:Type} {f:α→Bool} {l:List α} {i:Nat} {x:α} (h:l[i]? =some x):(l.drop i).all f=(f x && (l.drop (i+1)).all f):=by
  rw [b0r h,List.all_cons]
theorem d7o {α β:Type} {f:β→α→β} {l:List α} {i:Nat} {x:α} (h:l[i]? =some x) (b:β):(l.drop i).foldl f b=(l.drop (i+1)).foldl f (f b x):=by
  rw [b0r h,List.foldl_cons]
theorem f0e {α β:Type} {f:β→α→β} {l:List α} {i:Nat} (h:l.length≤i) (b:β):(l.drop i).foldl f b=b:=by
  rw [List.drop_of_length_le h];rfl
theorem b3k {α:Type} {f:α→V} {l:List α} {i:Nat} {x:α}:(l.map f).set i (f x)=(l.set i x).map f:=(List.map_set).symm
def inR (n lo hi:Int):Bool:=decide (lo≤n) && decide (n≤hi)
theorem c9c (a b:List Int) (ha:a.length≤1048576):Con Tryz.prog 169 [.sl (a.map (V.int .i64)),.sl (b.map (V.int .i64))] [] (.bool (decide (a=b))) []:=by
 refine b05 [.tmp 4] [] Tryz.func169 rfl rfl rfl (by simp [Tryz.ntmps169]) ?_
 intro Q0 n0 r0
 simp only [Tryz.ntmps169,b0l,Nat.reduceAdd]
 have T:=Tys.mk (ai Ty.t3 Ty.t75)
 have F:=Fc.mk True.intro
 refine yR [0,1] ⟨?_⟩;refine b0c ?_;intros;refine yR [0,1,10] ⟨?_⟩;refine b0d _ rfl ?_ ?_
 ·intro hc0
  refine yR [4] ⟨?_⟩;refine zr ⟨?_⟩
  exact b0a rfl (by rw [decide_eq_false (fun h=>by subst h;simp at hc0)]) (.inl rfl)
 ·intro hc0
  have hab:a.length=b.length:=by omega
  refine zn [0,1] ⟨?_⟩;refine b0c ?_;intros;refine yR [0,1,5] ⟨?_⟩;refine b0g ?_;intros;refine b08 (fun i=>⟨[(0,.sl (a.map (V.int .i64))),(1,.sl (b.map (V.int .i64))),(5,.int .i64 (Nat.cast i))],[],false,26,0⟩) (fun i=>i≤a.length∧((a=b)↔(a.drop i=b.drop i))) (fun i=>a.length - i) 0 ?_ ?_ ?_
  ·refine b1a [0,1,5] ?_
   simp only [b0s,b0k,b0h,b0i,b0n,Nat.reduceEqDiff,reduceIte]
   rfl
  ·exact ⟨Nat.zero_le _,by simp⟩
  ·rintro i hok9 Q9 n9 e9 r9
   obtain ⟨hi1,hR⟩:=hok9
   refine b0c ?_;intros;refine yR [0,1,5,14] ⟨?_⟩;refine b0d _ rfl ?_ ?_
   ·intro hc1
    have hlt:i < a.length:=by omega
    obtain ⟨x,hx⟩:∃x,a[i]? =some x:=⟨a[i],List.getElem?_eq_getElem hlt⟩
    obtain ⟨y,hy⟩:∃y,b[i]? =some y:=⟨b[i],List.getElem?_eq_getElem (by omega)⟩
    have hstep:=c2b hab hx hy
    refine zn [0,1,5] ⟨?_⟩;refine b0c ?_;intros;refine b0g ?_;intros;refine b0c ?_;intro Q15 n15 e15 r15;refine b1p (by kernel_rfl) ?_;intro K16 q16 k16
    show b14 _ _ _ _ 9 (Array.replicate 9 false) _
    have F:=Fc.mk (ai (gdm hx) (gdm hy))
    refine b0o q16 true 0 17 ?_;refine b0o q16 true 1 18 ?_;refine b07 q16 true 2 19 ?_;refine b1h q16 true 3 20 ?_;refine b0o q16 true 4 21 ?_;refine b0o q16 true 5 22 ?_;refine b07 q16 true 6 23 ?_;refine b1h q16 true 7 24 ?_;refine b2a q16 true 8 25 ?_;refine b0j (by kernel_rfl) ?_;refine k16 _ ?_;refine n15 _ _ (b0f [0,1,5,25] _) ?_;refine zk ⟨?_⟩;refine b0d _ rfl ?_ ?_
    ·intro hc2
     refine yR [4] ⟨?_⟩;refine zr ⟨?_⟩
     exact b0a rfl (by rw [decide_eq_false (fun h=>hc2 (hstep.1 (hR.1 h)).1)]) (.inl rfl)
    ·intro hc2
     refine zn [0,1,5] ⟨?_⟩;refine yV ⟨?_⟩;refine n9 _ (i+1) ?_ ?_ ?_
     ·refine b1a [0,1,5] ?_
      simp only [b0s,b0k,b0h,b0i,b0n,Nat.reduceEqDiff,reduceIte]
      rfl
     ·exact ⟨by omega,hR.trans (hstep.trans ⟨fun h=>h.2,fun h=>⟨hc2,h⟩⟩)⟩
     ·show _ < _;omega
   ·intro hc1
    refine zn [] ⟨?_⟩;refine yR [4] ⟨?_⟩;refine zr ⟨?_⟩
    exact b0a rfl (by rw [decide_eq_true (hR.2 (by rw [List.drop_of_length_le (by omega),List.drop_of_length_le (by omega)]))]) (.inl rfl)
def szS (n:Int) (l:List Int):Int:=if n - l.length < 0 then -1 else n - l.length
theorem szIntS_con (n:Int) (l:List Int) (hn:0≤n∧n≤1048576) (hl:l.length≤9223372036854775807):Con Tryz.prog 162 [.sl (l.map (V.int .i64)),.int .i64 n] [] (.int .i64 (szS n l)) []:=by
 refine b05 [.tmp 4] [] Tryz.func162 rfl rfl rfl (by simp [Tryz.ntmps162]) ?_
 intro Q0 n0 r0
 simp only [Tryz.ntmps162,b0l,Nat.reduceAdd]
 have T:=Tys.mk (ai Ty.t3 Ty.t75)
 have F:=Fc.mk True.intro
 refine yR [0,1] ⟨?_⟩;refine yR [1] ⟨?_⟩;refine b0c ?_;intros;refine yR [1,10] ⟨?_⟩;refine b0d _ rfl ?_ ?_
 ·intro hc0
  refine yR [4] ⟨?_⟩;refine zr ⟨?_⟩
  exact b0a rfl (by rw [szS,if_pos (by omega)]) (.inl rfl)
 ·intro hc0
  refine zn [1] ⟨?_⟩;refine yR [4] ⟨?_⟩;refine zr ⟨?_⟩
  exact b0a rfl (by rw [szS,if_neg (by omega)]) (.inl rfl)
theorem c89 (l:List Int) (hl:l.length≤1048576):Con Tryz.prog 166 [.sl (l.map (V.int .i64))] [] (.ref 0) [.arr (l.map (V.int .i64)) .flat]:=by
 refine b05 [.tmp 2] [] Tryz.func166 rfl rfl rfl (by simp [Tryz.ntmps166]) ?_
 intro Q0 n0 r0
 simp only [Tryz.ntmps166,b0l,Nat.reduceAdd]
 have T:=Tys.mk (ai Ty.t3 Ty.t75)
 have F:=Fc.mk True.intro
 refine yR [0] ⟨?_⟩;refine yR [0,3] ⟨?_⟩;refine b0c ?_;intros;refine yR [0,3,4] ⟨?_⟩;refine b0g ?_;intros;refine b08 (fun i=>⟨[(0,.sl (l.map (V.int .i64))),(3,.ref 0),(4,.int .i64 (Nat.cast i))],[.arr (b4z (V.int .i64) (V.int .i64 0) l i) .flat],false,22,0⟩) (fun i=>i≤l.length) (fun i=>l.length - i) 0 ?_ ?_ ?_
 ·refine b0b [0,3,4] [1] ⟨?_⟩
  rw [b7c];rfl
 ·exact Nat.zero_le _
 ·rintro i hok6 Q6 n6 e6 r6
  have hi1:i≤l.length:=hok6
  refine b0c ?_;intros;refine yR [0,3,4,11] ⟨?_⟩;refine b0d _ rfl ?_ ?_
  ·intro hc0
   have hlt:i < l.length:=by omega
   obtain ⟨x,hx⟩:∃x,l[i]? =some x:=⟨l[i],List.getElem?_eq_getElem hlt⟩
   refine zn [0,3,4] ⟨?_⟩;refine b0c ?_;intros;refine b0g ?_;intros
   have F:=Fc.mk (ai (gdm hx) (ai (fun f z=>b9c (f:=f) (z:=z) hi1) (ai (fun f z=>b9i (f:=f) (z:=z) hlt) (fun f z=>b9e (f:=f) (z:=z) hx))))
   refine yQ [0,3,4] ⟨?_⟩;refine yV ⟨?_⟩;refine n6 _ (i+1) ?_ ?_ ?_
   ·refine b0b [0,3,4] [0] ⟨?_⟩
    rfl
   ·exact hlt
   ·show _ < _;omega
  ·intro hc0
   refine zn [3] ⟨?_⟩;refine yR [2] ⟨?_⟩;refine zr ⟨?_⟩
   rw [←b87 (f:=(V.int .i64)) (z:=(V.int .i64 0)) (show l.length≤i by omega)]
   exact b9p rfl (.inl rfl)
def b19 (k:Int) (n:Nat):List Int:=(List.range n).map fun j:Nat=>k+j
theorem f00 (k:Int) (n:Nat):b19 k (n+1)=b19 k n++[k+n]:=by simp [b19,List.range_succ]
theorem b77 (k:Int) (n:Nat):(b19 k n).length=n:=by simp [b19]
theorem d97 {l:List Int} {k:Int} {i:Nat} {x:Int} (h:l[i]? =some x):(b19 k i++l.drop i).set i (k+i)=b19 k (i+1)++l.drop (i+1):=by
  rw [b0r h,f00,List.set_append_right _ _ (by rw [b77];omega),b77,Nat.sub_self,List.set_cons_zero,List.append_assoc]
  rfl
theorem f34 {l:List Int} {k:Int} {i:Nat} {x:Int} (h:l[i]? =some x):(b19 k i++l.drop i)[i]? =some x:=by
  rw [List.getElem?_append_right (by rw [b77];omega),b77,Nat.sub_self,b0r h]
  rfl
theorem d6r {l:List Int} {k:Int} {i:Nat} (h:i≤l.length):(b19 k i++l.drop i).length=l.length:=by simp [b77];omega
theorem f6k {k:Int} {n i:Nat} (h:i < n):(b19 k n)[i]? =some (k+i):=by
  simp [b19,List.getElem?_map,List.getElem?_range h]
theorem b8b (l:List Int) (k:Int) (hl:l.length≤1048576) (hk:0≤k∧k≤1152921504606846976):Con Tryz.prog 100 [.ref 0,.int .i64 k] [.arr (l.map (V.int .i64)) .flat] (.int .i64 (k+l.length)) [.arr ((b19 k l.length).map (V.int .i64)) .flat]:=by
 refine b05 [.tmp 4] [] Tryz.func100 rfl rfl rfl (by simp [Tryz.ntmps100]) ?_
 intro Q0 n0 r0
 simp only [Tryz.ntmps100,b0l,Nat.reduceAdd]
 have T:=Tys.mk (ai Ty.t3 Ty.t75)
 have F:=Fc.mk True.intro
 refine yR [0,1] ⟨?_⟩;refine b0c ?_;intros;refine yR [0,1,5] ⟨?_⟩;refine b0g ?_;intros;refine b08 (fun i=>⟨[(0,.ref 0),(1,.int .i64 (k+Nat.cast i)),(5,.int .i64 (Nat.cast i))],[.arr ((b19 k i++l.drop i).map (V.int .i64)) .flat],false,19,0⟩) (fun i=>i≤l.length) (fun i=>l.length - i) 0 ?_ ?_ ?_
 ·refine b0b [0,1,5] [0] ⟨?_⟩
  simp [b19]
 ·exact Nat.zero_le _
 ·rintro i hok5 Q5 n5 e5 r5
  have hi1:i≤l.length:=hok5
  refine b0c ?_;intros;refine yR [0,1,5,9] ⟨?_⟩;refine b0d _ rfl ?_ ?_
  ·intro hc0
   have hml:=d6r (k:=k) hi1
   rw [hml] at hc0
   have hlt:i < l.length:=by omega
   obtain ⟨x,hx⟩:∃x,l[i]? =some x:=⟨l[i],List.getElem?_eq_getElem hlt⟩
   have hmg:=f34 (k:=k) hx
   have hms:=d97 (k:=k) hx
   refine zn [0,1,5] ⟨?_⟩;refine b0c ?_;intros;refine b0g ?_;intros
   have F:=Fc.mk (ai (gdm hmg) (ai hml (ai @b3k hms)))
   refine yR [0,1,5] ⟨?_⟩;refine yQ [0,1,5] ⟨?_⟩;refine yV ⟨?_⟩;refine n5 _ (i+1) ?_ ?_ ?_
   ·refine b0b [0,1,5] [0] ⟨?_⟩
    rw [show (k+(i:Int)+1)=k+((i+1:Nat):Int) by omega];rfl
   ·exact hlt
   ·show _ < _;omega
  ·intro hc0
   rw [d6r (k:=k) hi1] at hc0
   refine zn [1] ⟨?_⟩;refine yR [4] ⟨?_⟩;refine zr ⟨?_⟩
   have hend:i=l.length:=by omega
   subst hend
   exact b4f rfl (by simp) rfl (by simp) (by simp [Blk.kindIs]) (.inl rfl)
theorem b7y (k0:Int):Con Tryz.prog 100 [.sl [],.int .i64 k0] [] (.int .i64 k0) []:=by
 refine b05 [.tmp 4] [] Tryz.func100 rfl rfl rfl (by simp [Tryz.ntmps100]) ?_
 intro Q0 n0 r0
 simp only [Tryz.ntmps100,b0l,Nat.reduceAdd]
 have T:=Tys.mk (ai Ty.t3 Ty.t75)
 have F:=Fc.mk True.intro
 refine yR [0,1] ⟨?_⟩;refine b0c ?_;intros;refine yR [0,1,5] ⟨?_⟩;refine b0g ?_;intros;refine b08 (fun i=>⟨[(0,.sl []),(1,.int .i64 k0),(5,.int .i64 0)],[],false,19,0⟩) (fun i=>True) (fun i=>0) () ?_ ?_ ?_
 ·refine b1a [0,1,5] ?_
  simp only [b0s,b0k,b0h,b0i,b0n,Nat.reduceEqDiff,reduceIte]
  all_goals rfl
 ·trivial
 ·rintro i hok5 Q5 n5 e5 r5
  have hok:True:=hok5
  refine b0c ?_;intros;refine yR [0,1,5,9] ⟨?_⟩;refine b1z _ rfl ?_ ?_
  ·intro hc0
   exfalso;simp at hc0
  ·intro hc0
   try simp only [zC,reduceCtorEq] at hc0
   refine zn [1] ⟨?_⟩;refine yR [4] ⟨?_⟩;refine zr ⟨?_⟩
   exact b0a rfl rfl (.inl rfl)
theorem d33 (k:Int) (n:Nat) (hl:n≤1048576) (hk:0≤k∧k≤1152921504606846976):Con Tryz.prog 149 [.sl ((b19 k n).map (V.int .i64)),.int .i64 k] [] (.int .i64 (k+n)) []:=by
 refine b05 [.tmp 4] [] Tryz.func149 rfl rfl rfl (by simp [Tryz.ntmps149]) ?_
 intro Q0 n0 r0
 simp only [Tryz.ntmps149,b0l,Nat.reduceAdd]
 have T:=Tys.mk (ai Ty.t3 Ty.t75)
 have F:=Fc.mk True.intro
 refine yR [0,1] ⟨?_⟩;refine b0c ?_;intros;refine yR [0,1,5] ⟨?_⟩;refine b0g ?_;intros;refine b08 (fun i=>⟨[(0,.sl ((b19 k n).map (V.int .i64))),(1,.int .i64 (k+Nat.cast i)),(5,.int .i64 (Nat.cast i))],[],false,21,0⟩) (fun i=>i≤n) (fun i=>n - i) 0 ?_ ?_ ?_
 ·refine b1a [0,1,5] ?_
  simp only [b0s,b0k,b0h,b0i,b0n,Nat.reduceEqDiff,reduceIte]
  simp
 ·exact Nat.zero_le _
 ·rintro i hok5 Q5 n5 e5 r5
  have hi1:i≤n:=hok5
  refine b0c ?_;intros;refine yR [0,1,5,9] ⟨?_⟩;refine b0d _ rfl ?_ ?_
  ·intro hc0
   rw [b77] at hc0
   have hlt:i < n:=by omega
   have hx:=f6k (k:=k) hlt
   refine zn [0,1,5] ⟨?_⟩;refine b0c ?_;intros;refine b0g ?_;intros;refine b0c ?_;intros
   have F:=Fc.mk (ai (gdm hx) @b77)
   refine yR [0,1,5,17] ⟨?_⟩;refine b1z _ rfl ?_ ?_
   ·intro hc1
    exfalso;simp at hc1
   ·intro hc1
    try simp only [zC,reduceCtorEq] at hc1
    refine zn [0,1,5] ⟨?_⟩;refine yQ [0,1,5] ⟨?_⟩;refine yV ⟨?_⟩;refine n5 _ (i+1) ?_ ?_ ?_
    ·refine b1a [0,1,5] ?_
     simp only [b0s,b0k,b0h,b0i,b0n,Nat.reduceEqDiff,reduceIte]
     rw [show (k+(i:Int)+1)=k+((i+1:Nat):Int) by omega];rfl
    ·exact hlt
    ·show _ < _;omega
  ·intro hc0
   rw [b77] at hc0
   refine zn [1] ⟨?_⟩;refine yR [4] ⟨?_⟩;refine zr ⟨?_⟩
   have hend:i=n:=by omega
   subst hend
   exact b0a rfl rfl (.inl rfl)
def b8q (l:List Int) (a:Int):Int:=l.foldl (fun m x=>if x > m then x else m) a
theorem f19 {l:List Int} {i:Nat} {x:Int} (h:l[i]? =some x) (m:Int):b8q (l.drop i) m=b8q (l.drop (i+1)) (if x > m then x else m):=d7o h m
theorem f39 {l:List Int} {i:Nat} (h:l.length≤i) (m:Int):b8q (l.drop i) m=m:=f0e h m
theorem c7o (x:Int) (l:List Int) (hl:(x::l).length≤1048576):Con Tryz.prog 87 [.sl ((x::l).map (V.int .i64))] [] (.int .i64 (b8q l x)) []:=by
 obtain ⟨xl,hxl⟩:∃xl,xl=x::l:=⟨_,rfl⟩
 have h0:xl[0]? =some x:=by rw [hxl];rfl
 have hres:b8q (xl.drop 1) x=b8q l x:=by rw [hxl];rfl
 rw [←hxl] at hl⊢
 rw [←hres]
 have hpos:0 < xl.length:=by rw [hxl];simp
 refine b05 [.tmp 2] [] Tryz.func87 rfl rfl rfl (by simp [Tryz.ntmps87]) ?_
 intro Q0 n0 r0
 simp only [Tryz.ntmps87,b0l,Nat.reduceAdd]
 have T:=Tys.mk (ai Ty.t3 Ty.t75)
 have F:=Fc.mk True.intro
 have F:=Fc.mk (gdm h0)
 refine yR [0] ⟨?_⟩;refine b0c ?_;intros;refine yR [0,7] ⟨?_⟩;refine b1z _ rfl ?_ ?_
 ·intro hc0
  exfalso;have hq:=of_decide_eq_true hc0;omega
 ·intro hc0
  try simp only [zC,reduceCtorEq] at hc0
  refine zn [0] ⟨?_⟩;refine yR [0,3] ⟨?_⟩;refine b0c ?_;intros;refine yR [0,3,4] ⟨?_⟩;refine b0g ?_;intros;refine b08 (fun p=>⟨[(0,.sl (xl.map (V.int .i64))),(3,.int .i64 p.2),(4,.int .i64 (Nat.cast p.1))],[],false,25,0⟩) (fun p=>1≤p.1∧p.1≤xl.length∧b8q (xl.drop p.1) p.2=b8q (xl.drop 1) x) (fun p=>xl.length - p.1) ((1,x):Nat×Int) ?_ ?_ ?_
  ·refine b1a [0,3,4] ?_
   simp only [b0s,b0k,b0h,b0i,b0n,Nat.reduceEqDiff,reduceIte]
   rfl
  ·exact ⟨Nat.le_refl _,hpos,rfl⟩
  ·rintro p hok9 Q9 n9 e9 r9
   obtain ⟨hi0,hi1,hR⟩:=hok9
   refine b0c ?_;intros;refine yR [0,3,4,15] ⟨?_⟩;refine b0d _ rfl ?_ ?_
   ·intro hc1
    have hlt:p.1 < xl.length:=by omega
    obtain ⟨y,hy⟩:∃y,xl[p.1]? =some y:=⟨xl[p.1],List.getElem?_eq_getElem hlt⟩
    refine zn [0,3,4] ⟨?_⟩;refine b0c ?_;intros;refine b0g ?_;intros
    have F:=Fc.mk (ai (gdm h0) (gdm hy))
    refine yQ [0,3,4] ⟨?_⟩;refine yV ⟨?_⟩;refine n9 _ (p.1+1,if y > p.2 then y else p.2) ?_ ?_ ?_
    ·refine b1a [0,3,4] ?_
     simp only [b0s,b0k,b0h,b0i,b0n,Nat.reduceEqDiff,reduceIte]
     rfl
    ·exact ⟨by show 1≤p.1+1;omega,by show p.1+1≤_;omega,by show b8q (xl.drop (p.1+1)) _=_;rw [←hR,f19 hy]⟩
    ·show _ < _;show xl.length - (p.1+1) < _;omega
   ·intro hc1
    refine zn [3] ⟨?_⟩;refine yR [2] ⟨?_⟩;refine zr ⟨?_⟩
    exact b0a rfl (by rw [←hR,f39 (by omega)]) (.inl rfl)
theorem c1a {α:Type} {f:α→Bool} {l:List α} {i:Nat} {x:α} (h:l[i]? =some x):(l.drop i).any f=(f x || (l.drop (i+1)).any f):=by
  rw [b0r h,List.any_cons]
theorem c4c {α:Type} {f:α→Bool} {l:List α} {i:Nat} (h:l.length≤i):(l.drop i).any f=false:=by
  rw [List.drop_of_length_le h];rfl
theorem f01 (l:List Int) (x:Int) (hl:l.length≤1048576):Con Tryz.prog 210 [.sl (l.map (V.int .i64)),.int .i64 x] [] (.bool (decide (x∈l))) []:=by
 refine b05 [.tmp 4] [] Tryz.func210 rfl rfl rfl (by simp [Tryz.ntmps210]) ?_
 intro Q0 n0 r0
 simp only [Tryz.ntmps210,b0l,Nat.reduceAdd]
 have T:=Tys.mk (ai Ty.t3 Ty.t75)
 have F:=Fc.mk True.intro
 refine yR [0,1] ⟨?_⟩;refine b0c ?_;intros;refine yR [1,7,8,9] ⟨?_⟩;refine b0g ?_;intros;refine b08 (fun i=>⟨[(1,.int .i64 x),(7,.sl (l.map (V.int .i64))),(8,.int .i64 l.length),(9,.int .i64 (Nat.cast i))],[],false,17,0⟩) (fun i=>i≤l.length∧(x∈l.drop i↔x∈l)) (fun i=>l.length - i) 0 ?_ ?_ ?_
 ·refine b1a [1,7,8,9] ?_
  simp only [b0s,b0k,b0h,b0i,b0n,Nat.reduceEqDiff,reduceIte]
  rfl
 ·exact ⟨Nat.zero_le _,Iff.rfl⟩
 ·rintro i hok5 Q5 n5 e5 r5
  obtain ⟨hi1,hR⟩:=hok5
  refine yR [1,7,8,9,10] ⟨?_⟩;refine b0c ?_;intros;refine b0d _ rfl ?_ ?_
  ·intro hc0
   have hlt:i < l.length:=by omega
   obtain ⟨y,hy⟩:∃y,l[i]? =some y:=⟨l[i],List.getElem?_eq_getElem hlt⟩
   have hst:x∈l.drop i↔(x=y∨x∈l.drop (i+1)):=by rw [b0r hy,List.mem_cons]
   refine zn [1,7,8,9] ⟨?_⟩;refine b0c ?_;intros;refine b0g ?_;intros
   have F:=Fc.mk (gdm hy)
   refine yR [1,6,7,8,9] ⟨?_⟩;refine yR [1,7,8,9,15] ⟨?_⟩;refine b0d _ rfl ?_ ?_
   ·intro hc1
    refine yR [4] ⟨?_⟩;refine zr ⟨?_⟩
    exact b0a rfl (by rw [decide_eq_true (hR.1 (hst.2 (.inl hc1.symm)))]) (.inl rfl)
   ·intro hc1
    refine zn [1,7,8,9] ⟨?_⟩;refine yV ⟨?_⟩;refine n5 _ (i+1) ?_ ?_ ?_
    ·refine b1a [1,7,8,9] ?_
     simp only [b0s,b0k,b0h,b0i,b0n,Nat.reduceEqDiff,reduceIte]
     rfl
    ·exact ⟨by omega,hR.symm.trans (hst.trans ⟨fun h=>h.elim (fun q=>absurd q.symm hc1) id,.inr⟩) |>.symm⟩
    ·show _ < _;omega
  ·intro hc0
   refine zn [] ⟨?_⟩;refine yR [4] ⟨?_⟩;refine zr ⟨?_⟩
   exact b0a rfl (by rw [decide_eq_false (fun h=>by have:=hR.2 h;rw [List.drop_of_length_le (by omega)] at this;cases this)]) (.inl rfl)
def b28 {α:Type} (f:Int→α→Int):Int→List α→Int
  | n,[]=>n
  | n,x::l=>if f n x < 0 then -1 else b28 f (f n x) l
theorem c6a {α:Type} {f:Int→α→Int} {g:α→Int} (hf:∀n x,0≤n→0≤f n x→g x≤n∧f n x≤n):∀{ll:List α} {n:Int},0≤n→0≤b28 f n ll→∀x∈ll,g x≤n
  | [],_,_,_,x,hx=>by cases hx
  | y ::ll,n,hn,h,x,hx=>by
    rw [b28] at h
    split at h
    · omega
    · rename_i hs
      have hy:=hf n y hn (by omega)
      rcases List.mem_cons.1 hx with rfl | h3
      · exact hy.1
      · have:=c6a hf (by omega) h x h3;omega
def d1v (s:ByteArray) (i:Nat):Bool:=(decide (97≤c72 s i) && decide (c72 s i≤122)) || ((decide (48≤c72 s i) && decide (c72 s i≤57)) && !decide (i=0))
def b5t (s:ByteArray):Bool:=(List.range s.size).all (d1v s) && (decide (1≤(s.size:Int)) && decide ((s.size:Int)≤6))
theorem d6n {s:ByteArray} {i:Nat} (hi:i < s.size) (h:d1v s i=false):b5t s=false:=by
  have:(List.range s.size).all (d1v s)=false:=by
    rw [List.all_eq_false]
    exact ⟨i,List.mem_range.2 hi,by rw [h];simp⟩
  rw [b5t,this];rfl
theorem d3g {s:ByteArray} {i:Nat} (hi:s.size≤i) (h:∀j,j < i→d1v s j=true):b5t s=(decide (1≤(s.size:Int)) && decide ((s.size:Int)≤6)):=by
  have:(List.range s.size).all (d1v s)=true:=by
    rw [List.all_eq_true]
    intro j hj
    exact h j (Nat.lt_of_lt_of_le (List.mem_range.1 hj) hi)
  rw [b5t,this];rfl
theorem f11 {s:ByteArray} {i:Nat} (h:∀j,j < i→d1v s j=true) (hi:d1v s i=true):∀j,j < i+1→d1v s j=true:=by
  intro j hj
  rcases Nat.lt_or_ge j i with q | q
  · exact h j q
  · have:j=i:=by omega
    subst this;exact hi
theorem c9v (s:ByteArray) (hs:s.size≤9223372036854775807):Con Tryz.prog 230 [.str s] [] (.bool (b5t s)) []:=by
 refine b05 [.tmp 2] [] Tryz.func230 rfl rfl rfl (by simp [Tryz.ntmps230]) ?_
 intro Q0 n0 r0
 simp only [Tryz.ntmps230,b0l,Nat.reduceAdd]
 have T:=Tys.mk (ai Ty.t3 (ai Ty.t4 (ai Ty.t5 Ty.t9)))
 have F:=Fc.mk True.intro
 refine yR [0] ⟨?_⟩;refine b0c ?_;intros;refine yR [0,3] ⟨?_⟩;refine b0g ?_;intros;refine b08 (fun i=>⟨[(0,.str s),(3,.int .i64 (Nat.cast i))],[],false,45,0⟩) (fun i=>i≤s.size∧∀j,j < i→d1v s j=true) (fun i=>s.size - i) 0 ?_ ?_ ?_
 ·refine b1a [0,3] ?_
  simp only [b0s,b0k,b0h,b0i,b0n,Nat.reduceEqDiff,reduceIte]
  rfl
 ·exact ⟨Nat.zero_le _,fun j h=>absurd h (Nat.not_lt_zero _)⟩
 ·rintro i hok5 Q5 n5 e5 r5
  obtain ⟨hi1,hR⟩:=hok5
  refine b0c ?_;intros;refine yR [0,3,9] ⟨?_⟩;refine b0d _ rfl ?_ ?_
  ·intro hc0
   have hlt:i < s.size:=by omega
   refine zn [0,3] ⟨?_⟩;refine b0c ?_;intros;refine b0g ?_;intros;refine yR [0,3,4] ⟨?_⟩;refine yR [0,3,4,5] ⟨?_⟩;refine yR [0,3,41] ⟨?_⟩;refine b0d _ rfl ?_ ?_
   ·intro hc1
    have hbad:d1v s i=false:=by simp only [d1v,Bool.or_eq_false_iff,Bool.and_eq_false_imp,decide_eq_true_eq,decide_eq_false_iff_not,Bool.not_eq_false',Bool.and_eq_true];omega
    refine yR [2] ⟨?_⟩;refine zr ⟨?_⟩
    exact b0a rfl (by rw [d6n hlt hbad]) (.inl rfl)
   ·intro hc1
    have hgood:d1v s i=true:=by simp only [d1v,Bool.or_eq_true,Bool.and_eq_true,decide_eq_true_eq,Bool.not_eq_true',decide_eq_false_iff_not];omega
    refine zn [0,3] ⟨?_⟩;refine yV ⟨?_⟩;refine n5 _ (i+1) ?_ ?_ ?_
    ·refine b1a [0,3] ?_
     simp only [b0s,b0k,b0h,b0i,b0n,Nat.reduceEqDiff,reduceIte]
     rfl
    ·exact ⟨by omega,f11 hR hgood⟩
    ·show _ < _;omega
  ·intro hc0
   refine zn [0] ⟨?_⟩;refine yRc [2] (b2o _ _ _) ⟨?_⟩;refine zr ⟨?_⟩
   exact b0a rfl (by rw [d3g (by omega) hR]) (.inl rfl)
theorem c4g (s:ByteArray) (hs:s.size≤9223372036854775807):Con Tryz.prog 233 [.str s] [] (.bool (b5t s)) []:=by
 refine b05 [.tmp 2] [] Tryz.func233 rfl rfl rfl (by simp [Tryz.ntmps233]) ?_
 intro Q0 n0 r0
 simp only [Tryz.ntmps233,b0l,Nat.reduceAdd]
 have T:=Tys.mk (ai Ty.t3 (ai Ty.t4 (ai Ty.t5 Ty.t9)))
 have F:=Fc.mk True.intro
 refine yR [0] ⟨?_⟩;refine b0c ?_;intros;refine yR [0,7,8] ⟨?_⟩;refine b0g ?_;intros;refine b08 (fun i=>⟨[(0,.str s),(7,.int .i64 s.size),(8,.int .i64 (Nat.cast i))],[],false,45,0⟩) (fun i=>i≤s.size∧∀j,j < i→d1v s j=true) (fun i=>s.size - i) 0 ?_ ?_ ?_
 ·refine b1a [0,7,8] ?_
  simp only [b0s,b0k,b0h,b0i,b0n,Nat.reduceEqDiff,reduceIte]
  rfl
 ·exact ⟨Nat.zero_le _,fun j h=>absurd h (Nat.not_lt_zero _)⟩
 ·rintro i hok5 Q5 n5 e5 r5
  obtain ⟨hi1,hR⟩:=hok5
  refine yR [0,7,8,9] ⟨?_⟩;refine b0c ?_;intros;refine b0d _ rfl ?_ ?_
  ·intro hc0
   have hlt:i < s.size:=by omega
   refine zn [0,7,8] ⟨?_⟩;refine b0c ?_;intros;refine b0g ?_;intros;refine yR [0,3,7,8] ⟨?_⟩;refine b0c ?_;intro Q12 n12 e12 r12;refine b1p (by kernel_rfl) ?_;intro K13 q13 k13
   show b14 _ _ _ _ 22 (Array.replicate 22 false) _
   refine b0o q13 true 0 11 ?_;refine b0o q13 true 1 12 ?_;refine f0y q13 true 2 13 ?_;refine b2a q13 true 3 14 ?_;refine b0o q13 true 4 15 ?_;refine b0y q13 true 5 16 ?_;refine b0y q13 true 6 17 ?_;refine c04 q13 true 7 18 ?_;refine b0z q13 true 8 19 ?_;refine b1w q13 true 9 20 ?_;refine b0o q13 true 10 21 ?_;refine b0o q13 true 11 22 ?_;refine f0y q13 true 12 23 ?_;refine b2a q13 true 13 24 ?_;refine b0o q13 true 14 25 ?_;refine b0y q13 true 15 26 ?_;refine b0y q13 true 16 27 ?_;refine c04 q13 true 17 28 ?_;refine b0z q13 true 18 29 ?_;refine b1w q13 true 19 30 ?_;refine b0t 20 ⟨?_⟩;refine b0t 21 ⟨?_⟩;refine b0j (by kernel_rfl) ?_;refine k13 _ ?_;refine n12 _ _ (b0f [0,3,4,5,7,8] _) ?_;refine zk ⟨?_⟩;refine yR [0,7,8,40] ⟨?_⟩;refine b0d _ rfl ?_ ?_
   ·intro hc1
    have hbad:d1v s i=false:=by simp only [d1v,Bool.or_eq_false_iff,Bool.and_eq_false_imp,decide_eq_true_eq,decide_eq_false_iff_not,Bool.not_eq_false',Bool.and_eq_true];omega
    refine yR [2] ⟨?_⟩;refine zr ⟨?_⟩
    exact b0a rfl (by rw [d6n hlt hbad]) (.inl rfl)
   ·intro hc1
    have hgood:d1v s i=true:=by simp only [d1v,Bool.or_eq_true,Bool.and_eq_true,decide_eq_true_eq,Bool.not_eq_true',decide_eq_false_iff_not];omega
    refine zn [0,7,8] ⟨?_⟩;refine yV ⟨?_⟩;refine n5 _ (i+1) ?_ ?_ ?_
    ·refine b1a [0,7,8] ?_
     simp only [b0s,b0k,b0h,b0i,b0n,Nat.reduceEqDiff,reduceIte]
     rfl
    ·exact ⟨by omega,f11 hR hgood⟩
    ·show _ < _;omega
  ·intro hc0
   refine zn [0] ⟨?_⟩;refine yRc [2] (b2b _ _ _) ⟨?_⟩;refine zr ⟨?_⟩
   exact b0a rfl (by rw [d3g (by omega) hR]) (.inl rfl)
theorem c2t (a:Int):Con Tryz.prog 231 [V.int .i64 a] [] (.bool false) []:=by
 refine b05 [.tmp 2] [] Tryz.func231 rfl rfl rfl (by simp [Tryz.ntmps231]) ?_
 intro Q0 n0 r0
 simp only [Tryz.ntmps231,b0l,Nat.reduceAdd]
 have T:=Tys.mk Ty.t3
 have F:=Fc.mk True.intro
 refine yR [0] ⟨?_⟩;refine yR [2] ⟨?_⟩;refine zr ⟨?_⟩
 exact b0a rfl (by first | rfl | simp) (.inl rfl)
theorem b9u (a:ByteArray):Con Tryz.prog 265 [V.str a] [] (.bool false) []:=by
 refine b05 [.tmp 2] [] Tryz.func265 rfl rfl rfl (by simp [Tryz.ntmps265]) ?_
 intro Q0 n0 r0
 simp only [Tryz.ntmps265,b0l,Nat.reduceAdd]
 have T:=Tys.mk Ty.t9
 have F:=Fc.mk True.intro
 refine yR [0] ⟨?_⟩;refine yR [2] ⟨?_⟩;refine zr ⟨?_⟩
 exact b0a rfl (by first | rfl | simp) (.inl rfl)
def d88 (a b:Int):Int:=if a < b then -1 else if b < a then 1 else 0
def orL:List Int→Int
  | []=>0
  | x::l=>if x≠0 then x else orL l
theorem f59 {l:List Int} {i:Nat} {x:Int} (h:l[i]? =some x):orL (l.drop i)=if x≠0 then x else orL (l.drop (i+1)):=by
  rw [b0r h,orL]
theorem f6o {l:List Int} {i:Nat} (h:l.length≤i):orL (l.drop i)=0:=by
  rw [List.drop_of_length_le h,orL]
theorem c31 (a b:Int):Con Tryz.prog 194 [.int .i64 a,.int .i64 b] [] (.int .i64 (d88 a b)) []:=by
 refine b05 [.tmp 4] [] Tryz.func194 rfl rfl rfl (by simp [Tryz.ntmps194]) ?_
 intro Q0 n0 r0
 simp only [Tryz.ntmps194,b0l,Nat.reduceAdd]
 have T:=Tys.mk (ai Ty.t3 Ty.t4)
 have F:=Fc.mk True.intro
 refine yR [0,1] ⟨?_⟩;refine yRc [0,1,5] (c2t _) ⟨?_⟩;refine yRc [0,1,5,6] (c2t _) ⟨?_⟩;refine b0c ?_;intros;refine yR [0,1,6,11] ⟨?_⟩;refine b1z _ rfl ?_ ?_
 ·intro hc0
  exfalso;simp at hc0
 ·intro hc0
  try simp only [zC,reduceCtorEq] at hc0
  refine zn [0,1,6] ⟨?_⟩;refine b0c ?_;intros;refine yR [0,1,13] ⟨?_⟩;refine b1z _ rfl ?_ ?_
  ·intro hc1
   exfalso;simp at hc1
  ·intro hc1
   try simp only [zC,reduceCtorEq] at hc1
   refine zn [0,1] ⟨?_⟩;refine b0c ?_;intros;refine yR [0,1,16] ⟨?_⟩;refine b0d _ rfl ?_ ?_
   ·intro hc2
    refine yR [4] ⟨?_⟩;refine zr ⟨?_⟩
    exact b0a rfl (by rw [d88,if_pos hc2]) (.inl rfl)
   ·intro hc2
    refine zn [0,1] ⟨?_⟩;refine b0c ?_;intros;refine yR [19] ⟨?_⟩;refine b0d _ rfl ?_ ?_
    ·intro hc3
     refine yR [4] ⟨?_⟩;refine zr ⟨?_⟩
     exact b0a rfl (by rw [d88,if_neg (by omega),if_pos hc3]) (.inl rfl)
    ·intro hc3
     refine zn [] ⟨?_⟩;refine yR [4] ⟨?_⟩;refine zr ⟨?_⟩
     exact b0a rfl (by rw [d88,if_neg (by omega),if_neg (by omega)]) (.inl rfl)
theorem f0h (l:List Int) (hl:l.length≤1048576):Con Tryz.prog 193 [.sl (l.map (V.int .i64))] [] (.int .i64 (orL l)) []:=by
 refine b05 [.tmp 2] [] Tryz.func193 rfl rfl rfl (by simp [Tryz.ntmps193]) ?_
 intro Q0 n0 r0
 simp only [Tryz.ntmps193,b0l,Nat.reduceAdd]
 have T:=Tys.mk (ai Ty.t3 Ty.t75)
 have F:=Fc.mk True.intro
 refine yR [0] ⟨?_⟩;refine yR [0,3] ⟨?_⟩;refine b0c ?_;intros;refine yR [3,6,7,8] ⟨?_⟩;refine b0g ?_;intros;refine b08 (fun i=>⟨[(3,.int .i64 0),(6,.sl (l.map (V.int .i64))),(7,.int .i64 l.length),(8,.int .i64 (Nat.cast i))],[],false,18,0⟩) (fun i=>i≤l.length∧orL (l.drop i)=orL l) (fun i=>l.length - i) 0 ?_ ?_ ?_
 ·refine b1a [3,6,7,8] ?_
  simp only [b0s,b0k,b0h,b0i,b0n,Nat.reduceEqDiff,reduceIte]
  rfl
 ·exact ⟨Nat.zero_le _,rfl⟩
 ·rintro i hok6 Q6 n6 e6 r6
  obtain ⟨hi1,hR⟩:=hok6
  refine yR [3,6,7,8,9] ⟨?_⟩;refine b0c ?_;intros;refine b0d _ rfl ?_ ?_
  ·intro hc0
   have hlt:i < l.length:=by omega
   obtain ⟨y,hy⟩:∃y,l[i]? =some y:=⟨l[i],List.getElem?_eq_getElem hlt⟩
   have hst:=f59 hy
   refine zn [3,6,7,8] ⟨?_⟩;refine b0c ?_;intros;refine b0g ?_;intros
   have F:=Fc.mk (gdm hy)
   refine yR [3,5,6,7,8] ⟨?_⟩;refine yR [3,5,6,7,8,14] ⟨?_⟩;refine b0d _ rfl ?_ ?_
   ·intro hc1
    refine yR [2] ⟨?_⟩;refine zr ⟨?_⟩
    exact b0a rfl (by rw [←hR,hst,if_pos hc1]) (.inl rfl)
   ·intro hc1
    refine zn [3,6,7,8] ⟨?_⟩;refine yV ⟨?_⟩;refine n6 _ (i+1) ?_ ?_ ?_
    ·refine b1a [3,6,7,8] ?_
     simp only [b0s,b0k,b0h,b0i,b0n,Nat.reduceEqDiff,reduceIte]
     rfl
    ·exact ⟨by omega,by rw [←hR,hst,if_neg (by simp [hc1])]⟩
    ·show _ < _;omega
  ·intro hc0
   refine zn [3] ⟨?_⟩;refine yR [2] ⟨?_⟩;refine zr ⟨?_⟩
   exact b0a rfl (by rw [←hR,f6o (by omega)]) (.inl rfl)
def b18 {α:Type} (ok:α→Bool) (bf:α→α→Bool):Option α→List α→Bool
  | _,[]=>true
  | none,x::l=>ok x && b18 ok bf (some x) l
  | some p,x::l=>ok x && bf p x && b18 ok bf (some x) l
def b1x {α:Type} (ok:α→Bool) (bf:α→α→Bool) (l:List α) (i:Nat):Bool:=b18 ok bf (if i=0 then none else l[i - 1]?) (l.drop i)
theorem b60 {α:Type} {ok:α→Bool} {bf:α→α→Bool} {l:List α} {x:α} (h:l[0]? =some x):b1x ok bf l 0=(ok x && b1x ok bf l 1):=by
  simp only [b1x,b0r h,if_true,b18]
  simp [h]
theorem b66 {α:Type} {ok:α→Bool} {bf:α→α→Bool} {l:List α} {x y:α} {i:Nat} (h0:0 < i) (hy:l[i - 1]? =some y) (h:l[i]? =some x):b1x ok bf l i=(ok x && bf y x && b1x ok bf l (i+1)):=by
  simp only [b1x,b0r h,hy,show ¬i=0 by omega,if_false,b18]
  simp [h]
theorem b82 {α:Type} {ok:α→Bool} {bf:α→α→Bool} {l:List α} {i:Nat} (h:l.length≤i):b1x ok bf l i=true:=by
  simp only [b1x,List.drop_of_length_le h]
  split<;>rfl
theorem c47 {α:Type} {ok:α→Bool} {bf:α→α→Bool}:∀{l:List α} {p:Option α},b18 ok bf p l=true→∀x∈l,ok x=true
  | [],_,_,x,hx=>by cases hx
  | y ::l,p,h,x,hx=>by
    have h2:ok y=true∧b18 ok bf (some y) l=true:=by
      cases p<;>simp [b18] at h<;>simp [h]
    rcases List.mem_cons.1 hx with rfl | h3
    · exact h2.1
    · exact c47 h2.2 x h3
theorem d6o {α:Type} {ok:α→Bool} {bf:α→α→Bool} {l:List α} (h:b1x ok bf l 0=true):∀x∈l,ok x=true:=c47 h
theorem b79 (a:ByteArray):b2f a a=false:=by
  unfold b2f
  generalize a.toList=l
  induction l with
  | nil=>rfl
  | cons x l ih=>simp [Op.bytesLess,ih]
def d1j:Nat→Int→ByteArray→ByteArray
  | 0,_,out=>out
  | m+1,k,out=>if 0 < k then d1j m (k / 10) (d2k [IntKind.u8.wrap (48+k % 10)]++out) else out
def b8k (k:Int):ByteArray:=if k≤0 then ⟨#[109,48]⟩ else ⟨#[109]⟩++d1j 19 k ⟨#[]⟩
theorem d9t {m:Nat} {k:Int} {out:ByteArray} (h:¬0 < k):d1j m k out=out:=by
  cases m with
  | zero=>rfl
  | succ m=>rw [d1j,if_neg h]
theorem f8n (n:Int):(d2k [n]).size=1:=rfl
theorem b73 (n:Int) (hn:n≤1152921504606846976):Con Tryz.prog 88 [.int .i64 n] [] (.str (b8k n)) []:=by
 have hz1:(⟨#[109]⟩:ByteArray).size=1:=rfl
 refine b05 [.tmp 2] [] Tryz.func88 rfl rfl rfl (by simp [Tryz.ntmps88]) ?_
 intro Q0 n0 r0
 simp only [Tryz.ntmps88,b0l,Nat.reduceAdd]
 have T:=Tys.mk (ai Ty.t3 (ai Ty.t5 (ai Ty.t9 Ty.t70)))
 have F:=Fc.mk True.intro
 refine yR [0] ⟨?_⟩;refine b0c ?_;intros;refine yR [0,5] ⟨?_⟩;refine b0d _ rfl ?_ ?_
 ·intro hc0
  refine yR [2] ⟨?_⟩;refine zr ⟨?_⟩
  exact b0a rfl (by rw [b8k,if_pos hc0]) (.inl rfl)
 ·intro hc0
  refine zn [0] ⟨?_⟩;refine yR [0,3] ⟨?_⟩;refine b0c ?_;intros;refine b0g ?_;intros;refine b08 (fun p=>⟨[(0,.int .i64 p.2.1),(3,.str p.2.2)],[],false,20,0⟩) (fun p=>0≤p.2.1∧p.2.1 < 10 ^ p.1∧p.2.1≤1152921504606846976∧p.2.2.size+p.1≤100∧d1j p.1 p.2.1 p.2.2=d1j 19 n ⟨#[]⟩) (fun p=>p.1) ((19,n,⟨#[]⟩):Nat×Int×ByteArray) ?_ ?_ ?_
  ·refine b1a [0,3] ?_
   simp only [b0s,b0k,b0h,b0i,b0n,Nat.reduceEqDiff,reduceIte]
   all_goals rfl
  ·exact ⟨by show 0≤n;omega,by show n < (10:Int) ^ 19;rw [show (10:Int) ^ 19=10000000000000000000 from by decide];omega,hn,by show (0:Nat)+19≤100;omega,rfl⟩
  ·rintro ⟨m0,k,out⟩ hok9 Q9 n9 e9 r9
   obtain ⟨hk1,hk2,hk3,hk4,hR⟩:=hok9
   simp only [] at hk1 hk2 hk3 hk4 hR⊢
   refine b0c ?_;intros;refine yR [0,3,7] ⟨?_⟩;refine b0d _ rfl ?_ ?_
   ·intro hc1
    obtain ⟨m,rfl⟩:∃m',m0=m'+1:=⟨m0 - 1,by cases m0 with | zero=>(simp at hk2;omega) | succ n=>rfl⟩
    have hq:k.tdiv 10=k / 10:=Int.tdiv_eq_ediv_of_nonneg (by omega)
    have hr:k.tmod 10=k % 10:=Int.tmod_eq_emod_of_nonneg (by omega)
    have hs1:=f8n (IntKind.u8.wrap (48+k % 10))
    have hpow:(10:Int) ^ (m+1)=10 * 10 ^ m:=by rw [Int.pow_succ];omega
    refine zn [0,3] ⟨?_⟩;refine b0g ?_;intros
    have F:=Fc.mk (ai hq hr)
    refine yR [0,3] ⟨?_⟩;refine yV ⟨?_⟩;refine n9 _ (m,k / 10,d2k [IntKind.u8.wrap (48+k % 10)]++out) ?_ ?_ ?_
    ·refine c28 [0,3] [] (by decide) (by simp) ?_ ?_ ?_
     ·simp [b0s,b0k,b0h,b0i,V.only,V.onlyL,idx]<;>(first | rfl | decide)
     ·simp [Blk.kindIs,b0v,b09]
     simp only [b0s,b0k,b0h,b0i,b0n,Nat.reduceEqDiff,reduceIte,St.comp,List.map_cons,List.map_nil,V.ren,V.renL,idx,List.getD_cons_zero,List.getD_cons_succ,Nat.reduceBEq,cond_true,cond_false,Option.map_some,Option.getD_some,Nat.reduceAdd,Nat.beq_eq_true_eq]
     all_goals rfl
    ·exact ⟨by show 0≤k / 10;omega,by show k / 10 < 10 ^ m;omega,by show k / 10≤_;omega,by show (d2k [IntKind.u8.wrap (48+k % 10)]++out).size+m≤100;rw [ByteArray.size_append,hs1];omega,by rw [←hR];show d1j m (k / 10) _=d1j (m+1) k out;rw [d1j,if_pos (by omega)]⟩
    ·show m < m+1;omega
   ·intro hc1
    refine zn [3] ⟨?_⟩;refine yR [2] ⟨?_⟩;refine zr ⟨?_⟩
    exact b0a rfl (by rw [b8k,if_neg (by omega),←hR,d9t (by omega)]) (.inl rfl)
def b5f {α:Type} (g:Nat→α) (n:Nat):List α:=(List.range n).map g
theorem d8q {α:Type} (g:Nat→α) (n:Nat):b5f g (n+1)=b5f g n++[g n]:=by simp [b5f,List.range_succ]
theorem b7j {α:Type} (g:Nat→α) (n:Nat):(b5f g n).length=n:=by simp [b5f]
theorem c3x {α:Type} {g:Nat→α} {l:List α} {i:Nat} {x:α} (h:l[i]? =some x):(b5f g i++l.drop i).set i (g i)=b5f g (i+1)++l.drop (i+1):=by
  rw [b0r h,d8q,List.set_append_right _ _ (by rw [b7j];omega),b7j,Nat.sub_self,List.set_cons_zero,List.append_assoc]
  rfl
theorem c7b {α:Type} {g:Nat→α} {l:List α} {i:Nat} {x:α} (h:l[i]? =some x):(b5f g i++l.drop i)[i]? =some x:=by
  rw [List.getElem?_append_right (by rw [b7j];omega),b7j,Nat.sub_self,b0r h]
  rfl
theorem b8y {α:Type} {g:Nat→α} {l:List α} {i:Nat} (h:i≤l.length):(b5f g i++l.drop i).length=l.length:=by simp [b7j];omega
end Go.Proofs.YtaefoaghpehbpaaGreat
