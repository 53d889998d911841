/- What functions compute. No condition. -/
import Derived.Test.YtaefoaghpehbpaaGreatUz
import Derived.Test.YtaefoaghpehbpaaGreatUty
import Derived.Test.YtaefoaghpehbpaaGreatUmG
import Derived.Test.YtaefoaghpehbpaaGreatX2
import Derived.Test.YtaefoaghpehbpaaGreatX4
import Derived.Test.YtaefoaghpehbpaaGreatX1
import Derived.Test.YtaefoaghpehbpaaGreatX3
import Derived.Test.YtaefoaghpehbpaaGreatX8
import Derived.Test.YtaefoaghpehbpaaGreatX7
import Derived.Test.YtaefoaghpehbpaaGreatX5
set_option linter.unusedSimpArgs false
set_option linter.unusedVariables false
set_option linter.defProp false
namespace Go.Proofs.YtaefoaghpehbpaaGreat
open Go Go.Vm
set_option maxHeartbeats 8000000
def f3p (n:Int) (l:List ByteArray):Int:=if n - (l.length:Int) < 0 then -1 else b28 b7l (n - (l.length:Int)) l
theorem d3w {α:Type} {f:Int→α→Int}:∀{l:List α} {n:Int},0≤n→b28 f n l < 0→b28 f n l=-1
  | [],n,h0,h=>by rw [b28] at h;omega
  | x ::l,n,h0,h=>by
    rw [b28] at h⊢
    by_cases q:f n x < 0
    · rw [if_pos q]
    · rw [if_neg q] at h⊢
      exact d3w (by omega) h
theorem f4h {n:Int} {l:List ByteArray} (h:f3p n l < 0):f3p n l=-1:=by
  unfold f3p at h⊢
  split at h
  · rename_i q;rw [if_pos q]
  · rename_i q;rw [if_neg q];exact d3w (by omega) h
theorem f51 {n:Int} {l:List ByteArray} (hn:0≤n):f3p n l≤n:=by
  unfold f3p
  split
  · omega
  · by_cases h:0≤b28 b7l (n - (l.length:Int)) l
    · have:=c4t f0g (by omega) h;omega
    · omega
theorem f4i {n:Int} {l:List ByteArray} (h:0≤f3p n l):(l.length:Int)≤n:=by
  unfold f3p at h
  split at h<;>omega
theorem f0v {n:Int} {l:List Int} (h:szS n l < 0):szS n l=-1:=by
  unfold szS at h⊢
  split at h
  · rename_i q;rw [if_pos q]
  · omega
theorem f47 {n:Int} {l:List Int} (hn:0≤n):szS n l≤n:=by
  unfold szS;split<;>omega
theorem f2z {n:Int} {l:List Int} (h:0≤szS n l):(l.length:Int)≤n:=by
  unfold szS at h
  split at h<;>omega
def b1n (n:Int) (t:TI):Int:=f3p n t.2.2.2
theorem b6k (n:Int) (t:TI) (hn:0≤n):b1n n t≤n:=f51 hn
theorem c6p {n:Int} {l:List TI} (hn:0≤n) (h:0≤b28 b1n n l):∀t∈l,(t.2.2.2.length:Int)≤n:=
  c6a (f:=b1n) (g:=fun t=>(t.2.2.2.length:Int)) (fun n x h0 h1=>⟨f4i h1,b6k n x h0⟩) hn h
theorem c82 (x0:Int) (x1:Int) (x2:Bool) (x3:List ByteArray) (n:Int) (hn:0≤n∧n≤1048576) (hlx:x3.length≤9223372036854775807) (hlxs:∀s∈x3,s.size≤9223372036854775807):Con Tryz.prog 117 [.agg [V.int .i64 x0,V.int .i64 x1,V.bool x2,V.sl (x3.map V.str)],.int .i64 n] [] (.int .i64 (b1n n (x0,x1,x2,x3))) []:=by
 refine b05 [.tmp 4] [] Tryz.func117 rfl rfl rfl (by simp [Tryz.ntmps117]) ?_
 intro Q0 n0 r0
 simp only [Tryz.ntmps117,b0l,Nat.reduceAdd]
 have T:=Tys.mk (ai Ty.t3 (ai Ty.t4 (ai Ty.t9 (ai Ty.t51 Ty.t160))))
 have F:=Fc.mk True.intro
 refine yR [1,2] ⟨?_⟩;refine yRc [1] ((szStringS_con n x3 hn hlx hlxs:Con _ _ _ _ (.int .i64 (f3p n x3)) _)) ⟨?_⟩;refine b0c ?_;intros;refine yR [1,10] ⟨?_⟩;refine b0d _ rfl ?_ ?_
 ·intro hc0
  refine yR [4] ⟨?_⟩;refine zr ⟨?_⟩
  exact b0a rfl (by rw [show b1n n (x0,x1,x2,x3)=-1 from f4h hc0]) (.inl rfl)
 ·intro hc0
  refine zn [1] ⟨?_⟩;refine yR [4] ⟨?_⟩;refine zr ⟨?_⟩
  exact b0a rfl rfl (.inl rfl)
theorem c6i (n:Int) (ll:List TI) (hn:0≤n∧n≤1048576) (hl:ll.length≤9223372036854775807) (hls:∀t∈ll,t.2.2.2.length≤9223372036854775807∧∀s∈t.2.2.2,s.size≤9223372036854775807):Con Tryz.prog 52 [.sl (ll.map (fun t:TI=>V.agg [V.int .i64 t.1,V.int .i64 t.2.1,V.bool t.2.2.1,V.sl (t.2.2.2.map V.str)])),.int .i64 n] [] (.int .i64 (if n - ll.length < 0 then -1 else b28 b1n (n - ll.length) ll)) []:=by
 refine b05 [.tmp 4] [] Tryz.func52 rfl rfl rfl (by simp [Tryz.ntmps52]) ?_
 intro Q0 n0 r0
 simp only [Tryz.ntmps52,b0l,Nat.reduceAdd]
 have T:=Tys.mk (ai Ty.t3 (ai Ty.t4 (ai Ty.t9 (ai Ty.t26 (ai Ty.t51 Ty.t160)))))
 have F:=Fc.mk True.intro
 refine yR [0,1] ⟨?_⟩;refine yR [0,1] ⟨?_⟩;refine b0c ?_;intros;refine yR [0,1,11] ⟨?_⟩;refine b0d _ rfl ?_ ?_
 ·intro hc0
  refine yR [4] ⟨?_⟩;refine zr ⟨?_⟩
  exact b0a rfl (by rw [if_pos (by omega)]) (.inl rfl)
 ·intro hc0
  refine zn [0,1] ⟨?_⟩;refine b0c ?_;intros;refine yR [0,1,5] ⟨?_⟩;refine b0g ?_;intros;refine b08 (fun p=>⟨[(0,.sl (ll.map (fun t:TI=>V.agg [V.int .i64 t.1,V.int .i64 t.2.1,V.bool t.2.2.1,V.sl (t.2.2.2.map V.str)]))),(1,.int .i64 p.2),(5,.int .i64 (Nat.cast p.1))],[],false,27,0⟩) (fun p=>p.1≤ll.length∧0≤p.2∧p.2≤1048576∧b28 b1n p.2 (ll.drop p.1)=b28 b1n (n - ll.length) ll) (fun p=>ll.length - p.1) (0,n - ll.length) ?_ ?_ ?_
  ·refine b1a [0,1,5] ?_
   simp only [b0s,b0k,b0h,b0i,b0n,Nat.reduceEqDiff,reduceIte]
   rfl
  ·exact ⟨Nat.zero_le _,by omega,by omega,by simp⟩
  ·rintro ⟨i,m⟩ hok10 Q10 n10 e10 r10
   obtain ⟨hi1,hm0,hm1,hR⟩:=hok10
   simp only [] at hi1 hm0 hm1 hR⊢
   refine b0c ?_;intros;refine yR [0,1,5,15] ⟨?_⟩;refine b0d _ rfl ?_ ?_
   ·intro hc1
    have hlt:i < ll.length:=by omega
    obtain ⟨⟨x0,x1,x2,x3⟩,hx⟩:∃x:TI,ll[i]? =some x:=⟨ll[i]'(by omega),List.getElem?_eq_getElem (by omega)⟩
    have hlx:=hls _ (List.mem_of_getElem? hx)
    simp only [] at hlx
    have hstep:b28 b1n m (ll.drop i)=if b1n m (x0,x1,x2,x3) < 0 then -1 else b28 b1n (b1n m (x0,x1,x2,x3)) (ll.drop (i+1)):=by rw [b0r hx,b28]
    have hzle:=b6k m (x0,x1,x2,x3) hm0
    refine zn [0,1,5] ⟨?_⟩;refine b0c ?_;intros;refine b0g ?_;intros
    have F:=Fc.mk (gdm hx)
    refine yRc [0,1,5] (c82 x0 x1 x2 x3 m ⟨hm0,hm1⟩ hlx.1 hlx.2) ⟨?_⟩;refine yR [0,1,5,25] ⟨?_⟩;refine b0d _ rfl ?_ ?_
    ·intro hc2
     refine yR [4] ⟨?_⟩;refine zr ⟨?_⟩
     exact b0a rfl (by rw [if_neg (by omega),←hR,hstep,if_pos hc2]) (.inl rfl)
    ·intro hc2
     refine zn [0,1,5] ⟨?_⟩;refine yV ⟨?_⟩;refine n10 _ (i+1,b1n m (x0,x1,x2,x3)) ?_ ?_ ?_
     ·refine b1a [0,1,5] ?_
      simp only [b0s,b0k,b0h,b0i,b0n,Nat.reduceEqDiff,reduceIte]
      rfl
     ·exact ⟨by simp only [];omega,by simp only [];omega,by simp only [];omega,by simp only [];rw [←hR,hstep,if_neg (by omega)]⟩
     ·show _ < _;simp only [];omega
   ·intro hc1
    refine zn [1] ⟨?_⟩;refine yR [4] ⟨?_⟩;refine zr ⟨?_⟩
    exact b0a rfl (by rw [if_neg (by omega),←hR,List.drop_of_length_le (by omega)];rfl) (.inl rfl)
theorem c8w (x0:Int) (x1:Int) (x2:Bool) (x3:List ByteArray) (hlx:x3.length≤1048576):Con Tryz.prog 127 [.agg [V.int .i64 x0,V.int .i64 x1,V.bool x2,V.sl (x3.map V.str)]] [] (.agg [V.int .i64 x0,V.int .i64 x1,V.bool x2,.ref 0]) [.arr (x3.map V.str) .flat]:=by
 refine b05 [.cell 2 99] [] Tryz.func127 rfl rfl rfl (by simp [Tryz.ntmps127]) ?_
 intro Q0 n0 r0
 simp only [Tryz.ntmps127,b0l,Nat.reduceAdd]
 have T:=Tys.mk (ai Ty.t3 (ai Ty.t4 (ai Ty.t9 (ai Ty.t51 (ai Ty.t99 Ty.t160)))))
 have F:=Fc.mk True.intro
 refine yR [1,2] ⟨?_⟩;refine yR [1,2,3] ⟨?_⟩;refine yR [1,2,3] ⟨?_⟩;refine yR [1,2,3] ⟨?_⟩;refine yR [1,2,3] ⟨?_⟩;refine yRc [2,3] (d1h x3 hlx) ⟨?_⟩;refine yR [2] ⟨?_⟩;refine zq3 ⟨?_⟩
 exact c0e [5] rfl rfl (by decide) rfl (by simp) (by simp [Blk.kindIs]) rfl
theorem c7y (l:List TI) (hl:l.length≤1048576) (hls:∀t∈l,t.2.2.2.length≤1048576):Con Tryz.prog 62 [.sl (l.map (fun t:TI=>V.agg [V.int .i64 t.1,V.int .i64 t.2.1,V.bool t.2.2.1,V.sl (t.2.2.2.map V.str)]))] [] (.ref 0) [.arr (l.map (fun t:TI=>V.agg [V.int .i64 t.1,V.int .i64 t.2.1,V.bool t.2.2.1,V.sl (t.2.2.2.map V.str)])) (b1v l.length)]:=by
 refine b05 [.tmp 2] [] Tryz.func62 rfl rfl rfl (by simp [Tryz.ntmps62]) ?_
 intro Q0 n0 r0
 simp only [Tryz.ntmps62,b0l,Nat.reduceAdd]
 have T:=Tys.mk (ai Ty.t3 (ai Ty.t4 (ai Ty.t9 (ai Ty.t26 (ai Ty.t33 (ai Ty.t51 (ai Ty.t99 Ty.t160)))))))
 have F:=Fc.mk True.intro
 refine yR [0] ⟨?_⟩;refine yR [0,3] ⟨?_⟩;refine b0c ?_;intros;refine yR [0,3,4] ⟨?_⟩;refine b0g ?_;intros;refine b08 (fun i=>⟨[(0,.sl (l.map (fun t:TI=>V.agg [V.int .i64 t.1,V.int .i64 t.2.1,V.bool t.2.2.1,V.sl (t.2.2.2.map V.str)]))),(3,.ref 0),(4,.int .i64 (Nat.cast i))],[.arr (b4z (fun t:TI=>V.agg [V.int .i64 t.1,V.int .i64 t.2.1,V.bool t.2.2.1,V.sl (t.2.2.2.map V.str)]) (V.agg [V.int .i64 0,V.int .i64 0,V.bool false,V.sl []]) l i) (b1v i)],false,23,0⟩) (fun i=>i≤l.length) (fun i=>l.length - i) 0 ?_ ?_ ?_
 ·refine b0b [0,3,4] [1] ⟨?_⟩
  rw [b7c];rfl
 ·exact Nat.zero_le _
 ·rintro i hok6 Q6 n6 e6 r6
  have hi1:i≤l.length:=hok6
  refine b0c ?_;intros;refine yR [0,3,4,11] ⟨?_⟩;refine b0d _ rfl ?_ ?_
  ·intro hc0
   have hlt:i < l.length:=by omega
   obtain ⟨⟨x0,x1,x2,x3⟩,hx⟩:∃x:TI,l[i]? =some x:=⟨l[i]'(by omega),List.getElem?_eq_getElem (by omega)⟩
   have hlx:=hls _ (List.mem_of_getElem? hx)
   simp only [] at hlx
   refine zn [0,3,4] ⟨?_⟩;refine b0c ?_;intros;refine b0g ?_;intros
   have F:=Fc.mk (ai (gdm hx) (ai (fun f z=>b9c (f:=f) (z:=z) hi1) (ai (fun f z=>b9i (f:=f) (z:=z) hlt) (fun f z=>b9e (f:=f) (z:=z) hx))))
   refine yQc [0,3,4] (c8w x0 x1 x2 x3 hlx) ⟨?_⟩;refine yV ⟨?_⟩;refine n6 _ (i+1) ?_ ?_ ?_
   ·refine b0b [0,3,4] [0] ⟨?_⟩
    rfl
   ·exact hlt
   ·show _ < _;omega
  ·intro hc0
   refine zn [3] ⟨?_⟩;refine yR [2] ⟨?_⟩;refine zr ⟨?_⟩
   have hend:l.length=i:=by omega
   rw [←b87 (f:=(fun t:TI=>V.agg [V.int .i64 t.1,V.int .i64 t.2.1,V.bool t.2.2.1,V.sl (t.2.2.2.map V.str)])) (z:=(V.agg [V.int .i64 0,V.int .i64 0,V.bool false,V.sl []])) (show l.length≤i by omega),hend]
   exact b9p rfl (b9n _)
theorem c8x (x0:Int) (x1:Int) (x2:Bool) (x3:List ByteArray) (y0:Int) (y1:Int) (y2:Bool) (y3:List ByteArray) (hlx:x3.length≤1048576):Con Tryz.prog 146 [.agg [V.int .i64 x0,V.int .i64 x1,V.bool x2,V.sl (x3.map V.str)],.agg [V.int .i64 y0,V.int .i64 y1,V.bool y2,V.sl (y3.map V.str)]] [] (.bool (decide ((x0,x1,x2,x3)=(y0,y1,y2,y3)))) []:=by
 refine b05 [.tmp 4] [] Tryz.func146 rfl rfl rfl (by simp [Tryz.ntmps146]) ?_
 intro Q0 n0 r0
 simp only [Tryz.ntmps146,b0l,Nat.reduceAdd]
 have T:=Tys.mk (ai Ty.t3 (ai Ty.t4 (ai Ty.t9 (ai Ty.t51 Ty.t99))))
 have F:=Fc.mk True.intro
 refine yR [2,3] ⟨?_⟩;refine b0c ?_;intros;refine yR [2,3,9] ⟨?_⟩;refine b0d _ rfl ?_ ?_
 ·intro hc0
  refine yR [4] ⟨?_⟩;refine zr ⟨?_⟩
  exact b0a rfl (by rw [decide_eq_false (by intro h;simp only [Prod.mk.injEq] at h;exact hc0 h.1)]) (.inl rfl)
 ·intro hc0
  refine zn [2,3] ⟨?_⟩;refine b0c ?_;intros;refine yR [2,3,14] ⟨?_⟩;refine b0d _ rfl ?_ ?_
  ·intro hc1
   refine yR [4] ⟨?_⟩;refine zr ⟨?_⟩
   exact b0a rfl (by rw [decide_eq_false (by intro h;simp only [Prod.mk.injEq] at h;exact hc1 h.2.1)]) (.inl rfl)
  ·intro hc1
   refine zn [2,3] ⟨?_⟩;refine b0c ?_;intros;refine yR [2,3,19] ⟨?_⟩;refine b0d _ rfl ?_ ?_
   ·intro hc2
    refine yR [4] ⟨?_⟩;refine zr ⟨?_⟩
    exact b0a rfl (by rw [decide_eq_false (by intro h;simp only [Prod.mk.injEq] at h;have hb:=h.2.2.1;rw [hb] at hc2;simp at hc2)]) (.inl rfl)
   ·intro hc2
    refine zn [2,3] ⟨?_⟩;refine b0c ?_;intros;refine yRc [25] (d0u x3 y3 hlx) ⟨?_⟩;refine b0d _ rfl ?_ ?_
    ·intro hc3
     refine yR [4] ⟨?_⟩;refine zr ⟨?_⟩
     exact b0a rfl (by rw [decide_eq_false (by intro h;simp only [Prod.mk.injEq] at h;(try simp at hc3);exact hc3 h.2.2.2)]) (.inl rfl)
    ·intro hc3
     refine zn [] ⟨?_⟩;refine yR [4] ⟨?_⟩;refine zr ⟨?_⟩
     exact b0a rfl (by rw [decide_eq_true (by (try simp at hc3);rw [hc0,hc1,(eq_of_beq hc2:x2=y2),hc3])]) (.inl rfl)
theorem c6y (a b:List TI) (ha:a.length≤1048576) (has:∀t∈a,t.2.2.2.length≤1048576):Con Tryz.prog 72 [.sl (a.map (fun t:TI=>V.agg [V.int .i64 t.1,V.int .i64 t.2.1,V.bool t.2.2.1,V.sl (t.2.2.2.map V.str)])),.sl (b.map (fun t:TI=>V.agg [V.int .i64 t.1,V.int .i64 t.2.1,V.bool t.2.2.1,V.sl (t.2.2.2.map V.str)]))] [] (.bool (decide (a=b))) []:=by
 refine b05 [.tmp 4] [] Tryz.func72 rfl rfl rfl (by simp [Tryz.ntmps72]) ?_
 intro Q0 n0 r0
 simp only [Tryz.ntmps72,b0l,Nat.reduceAdd]
 have T:=Tys.mk (ai Ty.t3 (ai Ty.t4 (ai Ty.t9 (ai Ty.t33 (ai Ty.t51 Ty.t99)))))
 have F:=Fc.mk True.intro
 refine yR [0,1] ⟨?_⟩;refine b0c ?_;intros;refine yR [0,1,10] ⟨?_⟩;refine b0d _ rfl ?_ ?_
 ·intro hc0
  refine yR [4] ⟨?_⟩;refine zr ⟨?_⟩
  exact b0a rfl (by rw [decide_eq_false (fun h=>by subst h;simp at hc0)]) (.inl rfl)
 ·intro hc0
  have hab:a.length=b.length:=by omega
  refine zn [0,1] ⟨?_⟩;refine b0c ?_;intros;refine yR [0,1,5] ⟨?_⟩;refine b0g ?_;intros;refine b08 (fun i=>⟨[(0,.sl (a.map (fun t:TI=>V.agg [V.int .i64 t.1,V.int .i64 t.2.1,V.bool t.2.2.1,V.sl (t.2.2.2.map V.str)]))),(1,.sl (b.map (fun t:TI=>V.agg [V.int .i64 t.1,V.int .i64 t.2.1,V.bool t.2.2.1,V.sl (t.2.2.2.map V.str)]))),(5,.int .i64 (Nat.cast i))],[],false,27,0⟩) (fun i=>i≤a.length∧((a=b)↔(a.drop i=b.drop i))) (fun i=>a.length - i) 0 ?_ ?_ ?_
  ·refine b1a [0,1,5] ?_
   simp only [b0s,b0k,b0h,b0i,b0n,Nat.reduceEqDiff,reduceIte]
   rfl
  ·exact ⟨Nat.zero_le _,by simp⟩
  ·rintro i hok9 Q9 n9 e9 r9
   obtain ⟨hi1,hR⟩:=hok9
   refine b0c ?_;intros;refine yR [0,1,5,14] ⟨?_⟩;refine b0d _ rfl ?_ ?_
   ·intro hc1
    have hlt:i < a.length:=by omega
    obtain ⟨⟨x0,x1,x2,x3⟩,hx⟩:∃x:TI,a[i]? =some x:=⟨a[i]'(by omega),List.getElem?_eq_getElem (by omega)⟩
    obtain ⟨⟨y0,y1,y2,y3⟩,hy⟩:∃x:TI,b[i]? =some x:=⟨b[i]'(by omega),List.getElem?_eq_getElem (by omega)⟩
    have hstep:=c2b hab hx hy
    have hlx:=has _ (List.mem_of_getElem? hx)
    simp only [] at hlx
    refine zn [0,1,5] ⟨?_⟩;refine b0c ?_;intros;refine b0g ?_;intros;refine b0c ?_;intro Q15 n15 e15 r15;refine b1p (by kernel_rfl) ?_;intro K16 q16 k16
    show b14 _ _ _ _ 10 (Array.replicate 10 false) _
    have F:=Fc.mk (ai (gdm hx) (gdm hy))
    refine b0o q16 true 0 17 ?_;refine b0o q16 true 1 18 ?_;refine b07 q16 true 2 19 ?_;refine b1h q16 true 3 20 ?_;refine b0o q16 true 4 21 ?_;refine b0o q16 true 5 22 ?_;refine b07 q16 true 6 23 ?_;refine b1h q16 true 7 24 ?_;refine zoc 8 (c8x x0 x1 x2 x3 y0 y1 y2 y3 hlx) ⟨?_⟩;refine b5q q16 true 9 26 ?_;refine b0j (by kernel_rfl) ?_;refine k16 _ ?_;refine n15 _ _ (b0f [0,1,5,26] _) ?_;refine zk ⟨?_⟩;refine b0d _ rfl ?_ ?_
    ·intro hc2
     refine yR [4] ⟨?_⟩;refine zr ⟨?_⟩
     exact b0a rfl (by rw [decide_eq_false (fun h=>hc2 (hstep.1 (hR.1 h)).1)]) (.inl rfl)
    ·intro hc2
     refine zn [0,1,5] ⟨?_⟩;refine yV ⟨?_⟩;refine n9 _ (i+1) ?_ ?_ ?_
     ·refine b1a [0,1,5] ?_
      simp only [b0s,b0k,b0h,b0i,b0n,Nat.reduceEqDiff,reduceIte]
      rfl
     ·exact ⟨by omega,hR.trans (hstep.trans ⟨fun h=>h.2,fun h=>⟨hc2,h⟩⟩)⟩
     ·show _ < _;omega
   ·intro hc1
    refine zn [] ⟨?_⟩;refine yR [4] ⟨?_⟩;refine zr ⟨?_⟩
    exact b0a rfl (by rw [decide_eq_true (hR.2 (by rw [List.drop_of_length_le (by omega),List.drop_of_length_le (by omega)]))]) (.inl rfl)
def b3v (n:Int) (t:TW):Int:=szS n t.2
theorem c4u (n:Int) (t:TW) (hn:0≤n):b3v n t≤n:=f47 hn
theorem d6i {n:Int} {l:List TW} (hn:0≤n) (h:0≤b28 b3v n l):∀t∈l,(t.2.length:Int)≤n:=
  c6a (f:=b3v) (g:=fun t=>(t.2.length:Int)) (fun n x h0 h1=>⟨f2z h1,c4u n x h0⟩) hn h
theorem d8f (x0:Int) (x1:List Int) (n:Int) (hn:0≤n∧n≤1048576) (hlx:x1.length≤9223372036854775807):Con Tryz.prog 118 [.agg [V.int .i64 x0,V.sl (x1.map (V.int .i64))],.int .i64 n] [] (.int .i64 (b3v n (x0,x1))) []:=by
 refine b05 [.tmp 4] [] Tryz.func118 rfl rfl rfl (by simp [Tryz.ntmps118]) ?_
 intro Q0 n0 r0
 simp only [Tryz.ntmps118,b0l,Nat.reduceAdd]
 have T:=Tys.mk (ai Ty.t3 (ai Ty.t75 Ty.t162))
 have F:=Fc.mk True.intro
 refine yR [1,2] ⟨?_⟩;refine yRc [1] ((szIntS_con n x1 hn hlx:Con _ _ _ _ (.int .i64 (szS n x1)) _)) ⟨?_⟩;refine b0c ?_;intros;refine yR [1,10] ⟨?_⟩;refine b0d _ rfl ?_ ?_
 ·intro hc0
  refine yR [4] ⟨?_⟩;refine zr ⟨?_⟩
  exact b0a rfl (by rw [show b3v n (x0,x1)=-1 from f0v hc0]) (.inl rfl)
 ·intro hc0
  refine zn [1] ⟨?_⟩;refine yR [4] ⟨?_⟩;refine zr ⟨?_⟩
  exact b0a rfl rfl (.inl rfl)
theorem d4t (n:Int) (ll:List TW) (hn:0≤n∧n≤1048576) (hl:ll.length≤9223372036854775807) (hls:∀t∈ll,t.2.length≤9223372036854775807):Con Tryz.prog 53 [.sl (ll.map (fun t:TW=>V.agg [V.int .i64 t.1,V.sl (t.2.map (V.int .i64))])),.int .i64 n] [] (.int .i64 (if n - ll.length < 0 then -1 else b28 b3v (n - ll.length) ll)) []:=by
 refine b05 [.tmp 4] [] Tryz.func53 rfl rfl rfl (by simp [Tryz.ntmps53]) ?_
 intro Q0 n0 r0
 simp only [Tryz.ntmps53,b0l,Nat.reduceAdd]
 have T:=Tys.mk (ai Ty.t3 (ai Ty.t27 (ai Ty.t75 Ty.t162)))
 have F:=Fc.mk True.intro
 refine yR [0,1] ⟨?_⟩;refine yR [0,1] ⟨?_⟩;refine b0c ?_;intros;refine yR [0,1,11] ⟨?_⟩;refine b0d _ rfl ?_ ?_
 ·intro hc0
  refine yR [4] ⟨?_⟩;refine zr ⟨?_⟩
  exact b0a rfl (by rw [if_pos (by omega)]) (.inl rfl)
 ·intro hc0
  refine zn [0,1] ⟨?_⟩;refine b0c ?_;intros;refine yR [0,1,5] ⟨?_⟩;refine b0g ?_;intros;refine b08 (fun p=>⟨[(0,.sl (ll.map (fun t:TW=>V.agg [V.int .i64 t.1,V.sl (t.2.map (V.int .i64))]))),(1,.int .i64 p.2),(5,.int .i64 (Nat.cast p.1))],[],false,27,0⟩) (fun p=>p.1≤ll.length∧0≤p.2∧p.2≤1048576∧b28 b3v p.2 (ll.drop p.1)=b28 b3v (n - ll.length) ll) (fun p=>ll.length - p.1) (0,n - ll.length) ?_ ?_ ?_
  ·refine b1a [0,1,5] ?_
   simp only [b0s,b0k,b0h,b0i,b0n,Nat.reduceEqDiff,reduceIte]
   rfl
  ·exact ⟨Nat.zero_le _,by omega,by omega,by simp⟩
  ·rintro ⟨i,m⟩ hok10 Q10 n10 e10 r10
   obtain ⟨hi1,hm0,hm1,hR⟩:=hok10
   simp only [] at hi1 hm0 hm1 hR⊢
   refine b0c ?_;intros;refine yR [0,1,5,15] ⟨?_⟩;refine b0d _ rfl ?_ ?_
   ·intro hc1
    have hlt:i < ll.length:=by omega
    obtain ⟨⟨x0,x1⟩,hx⟩:∃x:TW,ll[i]? =some x:=⟨ll[i]'(by omega),List.getElem?_eq_getElem (by omega)⟩
    have hlx:=hls _ (List.mem_of_getElem? hx)
    simp only [] at hlx
    have hstep:b28 b3v m (ll.drop i)=if b3v m (x0,x1) < 0 then -1 else b28 b3v (b3v m (x0,x1)) (ll.drop (i+1)):=by rw [b0r hx,b28]
    have hzle:=c4u m (x0,x1) hm0
    refine zn [0,1,5] ⟨?_⟩;refine b0c ?_;intros;refine b0g ?_;intros
    have F:=Fc.mk (gdm hx)
    refine yRc [0,1,5] (d8f x0 x1 m ⟨hm0,hm1⟩ hlx) ⟨?_⟩;refine yR [0,1,5,25] ⟨?_⟩;refine b0d _ rfl ?_ ?_
    ·intro hc2
     refine yR [4] ⟨?_⟩;refine zr ⟨?_⟩
     exact b0a rfl (by rw [if_neg (by omega),←hR,hstep,if_pos hc2]) (.inl rfl)
    ·intro hc2
     refine zn [0,1,5] ⟨?_⟩;refine yV ⟨?_⟩;refine n10 _ (i+1,b3v m (x0,x1)) ?_ ?_ ?_
     ·refine b1a [0,1,5] ?_
      simp only [b0s,b0k,b0h,b0i,b0n,Nat.reduceEqDiff,reduceIte]
      rfl
     ·exact ⟨by simp only [];omega,by simp only [];omega,by simp only [];omega,by simp only [];rw [←hR,hstep,if_neg (by omega)]⟩
     ·show _ < _;simp only [];omega
   ·intro hc1
    refine zn [1] ⟨?_⟩;refine yR [4] ⟨?_⟩;refine zr ⟨?_⟩
    exact b0a rfl (by rw [if_neg (by omega),←hR,List.drop_of_length_le (by omega)];rfl) (.inl rfl)
theorem d78 (x0:Int) (x1:List Int) (hlx:x1.length≤1048576):Con Tryz.prog 128 [.agg [V.int .i64 x0,V.sl (x1.map (V.int .i64))]] [] (.agg [V.int .i64 x0,.ref 0]) [.arr (x1.map (V.int .i64)) .flat]:=by
 refine b05 [.cell 2 102] [] Tryz.func128 rfl rfl rfl (by simp [Tryz.ntmps128]) ?_
 intro Q0 n0 r0
 simp only [Tryz.ntmps128,b0l,Nat.reduceAdd]
 have T:=Tys.mk (ai Ty.t3 (ai Ty.t75 (ai Ty.t102 Ty.t162)))
 have F:=Fc.mk True.intro
 refine yR [1,2] ⟨?_⟩;refine yR [1,2,3] ⟨?_⟩;refine yR [1,2,3] ⟨?_⟩;refine yRc [2,3] (c89 x1 hlx) ⟨?_⟩;refine yR [2] ⟨?_⟩;refine zq3 ⟨?_⟩
 exact c0e [5] rfl rfl (by decide) rfl (by simp) (by simp [Blk.kindIs]) rfl
theorem d48 (l:List TW) (hl:l.length≤1048576) (hls:∀t∈l,t.2.length≤1048576):Con Tryz.prog 63 [.sl (l.map (fun t:TW=>V.agg [V.int .i64 t.1,V.sl (t.2.map (V.int .i64))]))] [] (.ref 0) [.arr (l.map (fun t:TW=>V.agg [V.int .i64 t.1,V.sl (t.2.map (V.int .i64))])) (b1v l.length)]:=by
 refine b05 [.tmp 2] [] Tryz.func63 rfl rfl rfl (by simp [Tryz.ntmps63]) ?_
 intro Q0 n0 r0
 simp only [Tryz.ntmps63,b0l,Nat.reduceAdd]
 have T:=Tys.mk (ai Ty.t3 (ai Ty.t27 (ai Ty.t34 (ai Ty.t75 (ai Ty.t102 Ty.t162)))))
 have F:=Fc.mk True.intro
 refine yR [0] ⟨?_⟩;refine yR [0,3] ⟨?_⟩;refine b0c ?_;intros;refine yR [0,3,4] ⟨?_⟩;refine b0g ?_;intros;refine b08 (fun i=>⟨[(0,.sl (l.map (fun t:TW=>V.agg [V.int .i64 t.1,V.sl (t.2.map (V.int .i64))]))),(3,.ref 0),(4,.int .i64 (Nat.cast i))],[.arr (b4z (fun t:TW=>V.agg [V.int .i64 t.1,V.sl (t.2.map (V.int .i64))]) (V.agg [V.int .i64 0,V.sl []]) l i) (b1v i)],false,23,0⟩) (fun i=>i≤l.length) (fun i=>l.length - i) 0 ?_ ?_ ?_
 ·refine b0b [0,3,4] [1] ⟨?_⟩
  rw [b7c];rfl
 ·exact Nat.zero_le _
 ·rintro i hok6 Q6 n6 e6 r6
  have hi1:i≤l.length:=hok6
  refine b0c ?_;intros;refine yR [0,3,4,11] ⟨?_⟩;refine b0d _ rfl ?_ ?_
  ·intro hc0
   have hlt:i < l.length:=by omega
   obtain ⟨⟨x0,x1⟩,hx⟩:∃x:TW,l[i]? =some x:=⟨l[i]'(by omega),List.getElem?_eq_getElem (by omega)⟩
   have hlx:=hls _ (List.mem_of_getElem? hx)
   simp only [] at hlx
   refine zn [0,3,4] ⟨?_⟩;refine b0c ?_;intros;refine b0g ?_;intros
   have F:=Fc.mk (ai (gdm hx) (ai (fun f z=>b9c (f:=f) (z:=z) hi1) (ai (fun f z=>b9i (f:=f) (z:=z) hlt) (fun f z=>b9e (f:=f) (z:=z) hx))))
   refine yQc [0,3,4] (d78 x0 x1 hlx) ⟨?_⟩;refine yV ⟨?_⟩;refine n6 _ (i+1) ?_ ?_ ?_
   ·refine b0b [0,3,4] [0] ⟨?_⟩
    rfl
   ·exact hlt
   ·show _ < _;omega
  ·intro hc0
   refine zn [3] ⟨?_⟩;refine yR [2] ⟨?_⟩;refine zr ⟨?_⟩
   have hend:l.length=i:=by omega
   rw [←b87 (f:=(fun t:TW=>V.agg [V.int .i64 t.1,V.sl (t.2.map (V.int .i64))])) (z:=(V.agg [V.int .i64 0,V.sl []])) (show l.length≤i by omega),hend]
   exact b9p rfl (b9n _)
theorem d82 (x0:Int) (x1:List Int) (y0:Int) (y1:List Int) (hlx:x1.length≤1048576):Con Tryz.prog 147 [.agg [V.int .i64 x0,V.sl (x1.map (V.int .i64))],.agg [V.int .i64 y0,V.sl (y1.map (V.int .i64))]] [] (.bool (decide ((x0,x1)=(y0,y1)))) []:=by
 refine b05 [.tmp 4] [] Tryz.func147 rfl rfl rfl (by simp [Tryz.ntmps147]) ?_
 intro Q0 n0 r0
 simp only [Tryz.ntmps147,b0l,Nat.reduceAdd]
 have T:=Tys.mk (ai Ty.t3 (ai Ty.t4 (ai Ty.t75 Ty.t102)))
 have F:=Fc.mk True.intro
 refine yR [2,3] ⟨?_⟩;refine b0c ?_;intros;refine yR [2,3,9] ⟨?_⟩;refine b0d _ rfl ?_ ?_
 ·intro hc0
  refine yR [4] ⟨?_⟩;refine zr ⟨?_⟩
  exact b0a rfl (by rw [decide_eq_false (by intro h;simp only [Prod.mk.injEq] at h;exact hc0 h.1)]) (.inl rfl)
 ·intro hc0
  refine zn [2,3] ⟨?_⟩;refine b0c ?_;intros;refine yRc [15] (c9c x1 y1 hlx) ⟨?_⟩;refine b0d _ rfl ?_ ?_
  ·intro hc1
   refine yR [4] ⟨?_⟩;refine zr ⟨?_⟩
   exact b0a rfl (by rw [decide_eq_false (by intro h;simp only [Prod.mk.injEq] at h;(try simp at hc1);exact hc1 h.2)]) (.inl rfl)
  ·intro hc1
   refine zn [] ⟨?_⟩;refine yR [4] ⟨?_⟩;refine zr ⟨?_⟩
   exact b0a rfl (by rw [decide_eq_true (by (try simp at hc1);rw [hc0,hc1])]) (.inl rfl)
theorem d4y (a b:List TW) (ha:a.length≤1048576) (has:∀t∈a,t.2.length≤1048576):Con Tryz.prog 73 [.sl (a.map (fun t:TW=>V.agg [V.int .i64 t.1,V.sl (t.2.map (V.int .i64))])),.sl (b.map (fun t:TW=>V.agg [V.int .i64 t.1,V.sl (t.2.map (V.int .i64))]))] [] (.bool (decide (a=b))) []:=by
 refine b05 [.tmp 4] [] Tryz.func73 rfl rfl rfl (by simp [Tryz.ntmps73]) ?_
 intro Q0 n0 r0
 simp only [Tryz.ntmps73,b0l,Nat.reduceAdd]
 have T:=Tys.mk (ai Ty.t3 (ai Ty.t4 (ai Ty.t34 (ai Ty.t75 Ty.t102))))
 have F:=Fc.mk True.intro
 refine yR [0,1] ⟨?_⟩;refine b0c ?_;intros;refine yR [0,1,10] ⟨?_⟩;refine b0d _ rfl ?_ ?_
 ·intro hc0
  refine yR [4] ⟨?_⟩;refine zr ⟨?_⟩
  exact b0a rfl (by rw [decide_eq_false (fun h=>by subst h;simp at hc0)]) (.inl rfl)
 ·intro hc0
  have hab:a.length=b.length:=by omega
  refine zn [0,1] ⟨?_⟩;refine b0c ?_;intros;refine yR [0,1,5] ⟨?_⟩;refine b0g ?_;intros;refine b08 (fun i=>⟨[(0,.sl (a.map (fun t:TW=>V.agg [V.int .i64 t.1,V.sl (t.2.map (V.int .i64))]))),(1,.sl (b.map (fun t:TW=>V.agg [V.int .i64 t.1,V.sl (t.2.map (V.int .i64))]))),(5,.int .i64 (Nat.cast i))],[],false,27,0⟩) (fun i=>i≤a.length∧((a=b)↔(a.drop i=b.drop i))) (fun i=>a.length - i) 0 ?_ ?_ ?_
  ·refine b1a [0,1,5] ?_
   simp only [b0s,b0k,b0h,b0i,b0n,Nat.reduceEqDiff,reduceIte]
   rfl
  ·exact ⟨Nat.zero_le _,by simp⟩
  ·rintro i hok9 Q9 n9 e9 r9
   obtain ⟨hi1,hR⟩:=hok9
   refine b0c ?_;intros;refine yR [0,1,5,14] ⟨?_⟩;refine b0d _ rfl ?_ ?_
   ·intro hc1
    have hlt:i < a.length:=by omega
    obtain ⟨⟨x0,x1⟩,hx⟩:∃x:TW,a[i]? =some x:=⟨a[i]'(by omega),List.getElem?_eq_getElem (by omega)⟩
    obtain ⟨⟨y0,y1⟩,hy⟩:∃x:TW,b[i]? =some x:=⟨b[i]'(by omega),List.getElem?_eq_getElem (by omega)⟩
    have hstep:=c2b hab hx hy
    have hlx:=has _ (List.mem_of_getElem? hx)
    simp only [] at hlx
    refine zn [0,1,5] ⟨?_⟩;refine b0c ?_;intros;refine b0g ?_;intros;refine b0c ?_;intro Q15 n15 e15 r15;refine b1p (by kernel_rfl) ?_;intro K16 q16 k16
    show b14 _ _ _ _ 10 (Array.replicate 10 false) _
    have F:=Fc.mk (ai (gdm hx) (gdm hy))
    refine b0o q16 true 0 17 ?_;refine b0o q16 true 1 18 ?_;refine b07 q16 true 2 19 ?_;refine b1h q16 true 3 20 ?_;refine b0o q16 true 4 21 ?_;refine b0o q16 true 5 22 ?_;refine b07 q16 true 6 23 ?_;refine b1h q16 true 7 24 ?_;refine zoc 8 (d82 x0 x1 y0 y1 hlx) ⟨?_⟩;refine b5q q16 true 9 26 ?_;refine b0j (by kernel_rfl) ?_;refine k16 _ ?_;refine n15 _ _ (b0f [0,1,5,26] _) ?_;refine zk ⟨?_⟩;refine b0d _ rfl ?_ ?_
    ·intro hc2
     refine yR [4] ⟨?_⟩;refine zr ⟨?_⟩
     exact b0a rfl (by rw [decide_eq_false (fun h=>hc2 (hstep.1 (hR.1 h)).1)]) (.inl rfl)
    ·intro hc2
     refine zn [0,1,5] ⟨?_⟩;refine yV ⟨?_⟩;refine n9 _ (i+1) ?_ ?_ ?_
     ·refine b1a [0,1,5] ?_
      simp only [b0s,b0k,b0h,b0i,b0n,Nat.reduceEqDiff,reduceIte]
      rfl
     ·exact ⟨by omega,hR.trans (hstep.trans ⟨fun h=>h.2,fun h=>⟨hc2,h⟩⟩)⟩
     ·show _ < _;omega
   ·intro hc1
    refine zn [] ⟨?_⟩;refine yR [4] ⟨?_⟩;refine zr ⟨?_⟩
    exact b0a rfl (by rw [decide_eq_true (hR.2 (by rw [List.drop_of_length_le (by omega),List.drop_of_length_le (by omega)]))]) (.inl rfl)
theorem b6r (l:List TI) (g:Nat) (caps:List V) (p:TI→Bool) (hl:l.length≤1048576) (hc:Caps caps) (hg:∀x0 x1 x2 x3,(x0,x1,x2,x3)∈l→Con Tryz.prog g (V.agg [V.int .i64 x0,V.int .i64 x1,V.bool x2,V.sl (x3.map V.str)]::caps) [] (.bool (p (x0,x1,x2,x3))) []):Con Tryz.prog 137 [.sl (l.map (fun t:TI=>V.agg [V.int .i64 t.1,V.int .i64 t.2.1,V.bool t.2.2.1,V.sl (t.2.2.2.map V.str)])),.fn g caps] [] (.int .i64 (b20 p 0 l)) []:=by
 refine b05 [.tmp 4] [] Tryz.func137 rfl rfl rfl (by simp [Tryz.ntmps137]) ?_
 intro Q0 n0 r0
 simp only [Tryz.ntmps137,b0l,Nat.reduceAdd]
 have T:=Tys.mk (ai Ty.t3 (ai Ty.t4 (ai Ty.t9 (ai Ty.t33 (ai Ty.t51 Ty.t99)))))
 have F:=Fc.mk True.intro
 refine yR [0,1] ⟨?_⟩;refine b0c ?_;intros;refine yR [0,1,7,8] ⟨?_⟩;refine b0g ?_;intros;refine b08 (fun i=>⟨[(0,.sl (l.map (fun t:TI=>V.agg [V.int .i64 t.1,V.int .i64 t.2.1,V.bool t.2.2.1,V.sl (t.2.2.2.map V.str)]))),(1,.fn g caps),(7,.int .i64 l.length),(8,.int .i64 (Nat.cast i))],[],false,19,0⟩) (fun i=>i≤l.length∧b20 p i (l.drop i)=b20 p 0 l) (fun i=>l.length - i) 0 ?_ ?_ ?_
 ·refine b1a [0,1,7,8] ?_
  simp only [b0s,b0k,b0h,b0i,b0n,Nat.reduceEqDiff,reduceIte]
  rfl
 ·exact ⟨Nat.zero_le _,rfl⟩
 ·rintro i hok5 Q5 n5 e5 r5
  obtain ⟨hi1,hR⟩:=hok5
  refine yR [0,1,7,8,9] ⟨?_⟩;refine b0c ?_;intros;refine b0d _ rfl ?_ ?_
  ·intro hc0
   have hlt:i < l.length:=by omega
   obtain ⟨⟨x0,x1,x2,x3⟩,hx⟩:∃x:TI,l[i]? =some x:=⟨l[i]'(by omega),List.getElem?_eq_getElem (by omega)⟩
   have hst:=b54 (p:=p) hx
   refine zn [0,1,7,8] ⟨?_⟩;refine b0c ?_;intros;refine b0g ?_;intros
   have F:=Fc.mk (gdm hx)
   refine yR [0,1,5,7,8] ⟨?_⟩;refine b4y [0,1,5,7,8,16] ?_;intro K12 k12;refine zq5 ⟨?_⟩;refine b6n ⟨?_⟩;refine b6a ⟨?_⟩;refine d5j ⟨?_⟩;refine zcc (hg x0 x1 x2 x3 (List.mem_of_getElem? hx)) ⟨?_⟩;refine k12 _ ?_;refine zk ⟨?_⟩;refine b0d _ rfl ?_ ?_
   ·intro hc1
    refine yR [4] ⟨?_⟩;refine zr ⟨?_⟩
    exact b0a rfl (by rw [←hR,hst,if_pos hc1]) (.inl rfl)
   ·intro hc1
    refine zn [0,1,7,8] ⟨?_⟩;refine yV ⟨?_⟩;refine n5 _ (i+1) ?_ ?_ ?_
    ·refine b5b [0,1,7,8] [] ⟨?_⟩
     rfl
    ·exact ⟨by omega,by rw [←hR,hst,if_neg (by simp [hc1])]⟩
    ·show _ < _;omega
  ·intro hc0
   refine zn [] ⟨?_⟩;refine yR [4] ⟨?_⟩;refine zr ⟨?_⟩
   exact b0a rfl (by rw [←hR,b7a (by omega)]) (.inl rfl)
def c1h (x:TI):Bool:=(decide (1≤x.1) && decide (x.1≤999)) && (decide (0≤x.2.1) && decide (x.2.1≤13)) && !decide (12 < (x.2.2.2.length:Int)) && !(x.2.2.1 && decide (0 < (x.2.2.2.length:Int))) && b1x b5t b2f x.2.2.2 0
def b7v (pre:List TI) (x:TI):Bool:=x.2.2.2.any fun s=>pre.any fun y=>inS s y.2.2.2
def c1l (l:List TI) (i:Nat):Bool:=match l[i]? with
  | none=>true
  | some x=>c1h x && (decide (i=0) || match l[i - 1]? with | some y=>decide (y.1 < x.1) | none=>true) && !b7v (l.take i) x
def c2g (l:List TI):Bool:=(List.range l.length).all (c1l l) && decide ((l.length:Int)≤8)
theorem b8d {l:List TI} {i:Nat} (hi:i < l.length) (h:c1l l i=false):c2g l=false:=by
  have:(List.range l.length).all (c1l l)=false:=by
    rw [List.all_eq_false]
    exact ⟨i,List.mem_range.2 hi,by rw [h];simp⟩
  rw [c2g,this];rfl
theorem d2b {l:List TI} {i:Nat} (hi:l.length≤i) (h:∀j,j < i→c1l l j=true):c2g l=decide ((l.length:Int)≤8):=by
  have:(List.range l.length).all (c1l l)=true:=by
    rw [List.all_eq_true]
    intro j hj
    exact h j (Nat.lt_of_lt_of_le (List.mem_range.1 hj) hi)
  rw [c2g,this];rfl
theorem b6p {P:Nat→Bool} {i:Nat} (h:∀j,j < i→P j=true) (hi:P i=true):∀j,j < i+1→P j=true:=by
  intro j hj
  rcases Nat.lt_or_ge j i with q | q
  · exact h j q
  · have:j=i:=by omega
    subst this;exact hi
theorem d3r {l:List TI} {x:TI} (h:l[0]? =some x):c1l l 0=(c1h x && !b7v (l.take 0) x):=by
  rw [c1l,h];simp
theorem d3i {l:List TI} {i:Nat} {x y:TI} (h0:0 < i) (hy:l[i - 1]? =some y) (h:l[i]? =some x):c1l l i=(c1h x && decide (y.1 < x.1) && !b7v (l.take i) x):=by
  rw [c1l,h]
  simp only [hy,decide_eq_false (show ¬i=0 by omega),Bool.false_or]
def b5y (l:List TI) (n:Int):Int:=b20 (fun x:TI=>decide (x.1=n) && !x.2.2.1) 0 l
def c74 (l:List TI) (s:ByteArray):Int:=b20 (fun x:TI=>inS s x.2.2.2) 0 l
theorem d0h (l:List TI) (s:ByteArray):decide (0≤c74 l s)=l.any fun y=>inS s y.2.2.2:=c0w _ l 0
theorem f3m {α β:Type} (f:α→β→Bool) (l:List α) (m:List β):(l.any fun a=>m.any fun b=>f a b)=(m.any fun b=>l.any fun a=>f a b):=by
  rw [Bool.eq_iff_iff]
  simp only [List.any_eq_true]
  exact ⟨fun ⟨a,ha,b,hb,h⟩=>⟨b,hb,a,ha,h⟩,fun ⟨b,hb,a,ha,h⟩=>⟨a,ha,b,hb,h⟩⟩
set_option maxRecDepth 8000 in
theorem c1k (x0:Int) (x1:Int) (x2:Bool) (x3:List ByteArray) (hsz:∀s∈x3,s.size≤9223372036854775807) (hnl:x3.length≤1048576):Con Tryz.prog 198 [.agg [V.int .i64 x0,V.int .i64 x1,V.bool x2,V.sl (x3.map V.str)]] [] (.bool (c1h (x0,x1,x2,x3))) []:=by
 refine b05 [.tmp 2] [] Tryz.func198 rfl rfl rfl (by simp [Tryz.ntmps198]) ?_
 intro Q0 n0 r0
 simp only [Tryz.ntmps198,b0l,Nat.reduceAdd]
 have T:=Tys.mk (ai Ty.t3 (ai Ty.t4 (ai Ty.t9 (ai Ty.t51 Ty.t99))))
 have F:=Fc.mk True.intro
 refine yR [1] ⟨?_⟩;refine b0c ?_;intros;refine f4g [1,30] (b2b _ _ _) (b2b _ _ _) ⟨?_⟩;refine b0d _ rfl ?_ ?_
 ·intro hc0
  have hh:c1h (x0,x1,x2,x3)=false:=by
   cases hq:c1h (x0,x1,x2,x3) with
   |false=>rfl
   |true=>
    exfalso
    have hq2:(((decide (1≤x0) && decide (x0≤999)) && (decide (0≤x1) && decide (x1≤13)) && !decide (12 < (x3.length:Int)) && !(x2 && decide (0 < (x3.length:Int)))) && b1x b5t b2f x3 0)=true:=hq
    rw [Bool.and_eq_true] at hq2
    have hq3:=hq2.1
    generalize (x3.length:Int)=m at hc0 hq3
    clear hq hq2
    cases x2<;>simp at hc0 hq3<;>omega
  refine yR [2] ⟨?_⟩;refine zr ⟨?_⟩
  rw [hh]
  exact b0a rfl rfl (.inl rfl)
 ·intro hc0
  have hh:c1h (x0,x1,x2,x3)=b1x b5t b2f x3 0:=by
   have hb:((decide (1≤x0) && decide (x0≤999)) && (decide (0≤x1) && decide (x1≤13)) && !decide (12 < (x3.length:Int)) && !(x2 && decide (0 < (x3.length:Int))))=true:=by
    generalize (x3.length:Int)=m at hc0⊢
    cases x2<;>simp at hc0⊢<;>omega
   show (((decide (1≤x0) && decide (x0≤999)) && (decide (0≤x1) && decide (x1≤13)) && !decide (12 < (x3.length:Int)) && !(x2 && decide (0 < (x3.length:Int)))) && b1x b5t b2f x3 0)=_
   rw [hb];rfl
  refine zn [1] ⟨?_⟩;refine b0c ?_;intros;refine yR [1,32,33,34] ⟨?_⟩;refine b0g ?_;intros;refine b08 (fun i=>⟨[(1,.ptr 0 0 0),(32,.sl (x3.map V.str)),(33,.int .i64 x3.length),(34,.int .i64 (Nat.cast i))],[.box (.agg [V.int .i64 x0,V.int .i64 x1,V.bool x2,V.sl (x3.map V.str)]) .shal],false,57,0⟩) (fun i=>i≤x3.length∧b1x b5t b2f x3 i=b1x b5t b2f x3 0) (fun i=>x3.length - i) 0 ?_ ?_ ?_
  ·refine b0b [1,32,33,34] [0] ⟨?_⟩
   rfl
  ·exact ⟨Nat.zero_le _,rfl⟩
  ·rintro i hok9 Q9 n9 e9 r9
   obtain ⟨hi1,hR⟩:=hok9
   refine yR [1,32,33,34,35] ⟨?_⟩;refine b0c ?_;intros;refine b0d _ rfl ?_ ?_
   ·intro hc1
    have hlt:i < x3.length:=by omega
    obtain ⟨s,hx⟩:∃s,x3[i]? =some s:=⟨_,List.getElem?_eq_getElem hlt⟩
    have hsx:=hsz s (List.mem_of_getElem? hx)
    rcases Nat.eq_zero_or_pos i with h0 | h0
    ·skip
     have hi0:¬((0:Int) < (i:Int)):=by omega
     have hst:b1x b5t b2f x3 i=(b5t s && b1x b5t b2f x3 (i+1)):=by subst h0;exact b60 hx
     refine zn [1,32,33,34] ⟨?_⟩;refine b0c ?_;intros;refine b0g ?_;intros
     have F:=Fc.mk (ai (gdm hx) (ai hi0 (ai @decide_false @Bool.and_false)))
     refine yR [1,3,4,32,33,34] ⟨?_⟩;refine yRc [1,32,33,34,55] (c4g s hsx) ⟨?_⟩;refine b0d _ rfl ?_ ?_
     ·intro hc2
      refine yR [2] ⟨?_⟩;refine zr ⟨?_⟩
      rw [hh]
      exact b0a rfl (by rw [←hR,hst];(try simp at hc2);first | (simp [hc2];done) | (rcases hc2 with h | h<;>simp [h];done) | (simp_all;done)) (.inl rfl)
     ·intro hc2
      refine zn [1,32,33,34] ⟨?_⟩;refine yV ⟨?_⟩;refine n9 _ (i+1) ?_ ?_ ?_
      ·refine b0b [1,32,33,34] [0] ⟨?_⟩
       rfl
      ·exact ⟨by omega,by rw [←hR,hst];(try simp at hc2);first | (simp [hc2];done) | (simp_all;done)⟩
      ·show _ < _;omega
    ·skip
     obtain ⟨y,hy⟩:∃y,x3[i - 1]? =some y:=⟨_,List.getElem?_eq_getElem (by omega)⟩
     have hi0:(0:Int) < i:=by omega
     have hk:((i:Int) - 1).toNat=i - 1:=by omega
     have hst:=b66 (ok:=b5t) (bf:=b2f) h0 hy hx
     refine zn [1,32,33,34] ⟨?_⟩;refine b0c ?_;intros;refine b0g ?_;intros
     have F:=Fc.mk (ai (gdm hx) (ai hi0 (ai hk (ai (gdm hy) (ai @decide_true @Bool.and_true)))))
     refine yR [1,3,4,32,33,34] ⟨?_⟩;refine yRc [1,32,33,34,55] (c4g s hsx) ⟨?_⟩;refine b0d _ rfl ?_ ?_
     ·intro hc2
      refine yR [2] ⟨?_⟩;refine zr ⟨?_⟩
      rw [hh]
      exact b0a rfl (by rw [←hR,hst];(try simp at hc2);first | (simp [hc2];done) | (rcases hc2 with h | h<;>simp [h];done) | (simp_all;done)) (.inl rfl)
     ·intro hc2
      refine zn [1,32,33,34] ⟨?_⟩;refine yV ⟨?_⟩;refine n9 _ (i+1) ?_ ?_ ?_
      ·refine b0b [1,32,33,34] [0] ⟨?_⟩
       rfl
      ·exact ⟨by omega,by rw [←hR,hst];(try simp at hc2);first | (simp [hc2];done) | (simp_all;done)⟩
      ·show _ < _;omega
   ·intro hc1
    refine zn [] ⟨?_⟩;refine yR [2] ⟨?_⟩;refine zr ⟨?_⟩
    rw [hh]
    exact b0a rfl (by rw [←hR,b82 (by omega)]) (.inl rfl)
set_option maxRecDepth 8000 in
theorem d35 (x0:Int) (x1:Int) (x2:Bool) (x3:List ByteArray) (hsz:∀s∈x3,s.size≤9223372036854775807) (hnl:x3.length≤1048576):Con Tryz.prog 190 [.agg [V.int .i64 x0,V.int .i64 x1,V.bool x2,V.sl (x3.map V.str)]] [] (.bool (c1h (x0,x1,x2,x3))) []:=by
 have hcs:=d5m (ok:=b5t) (bf:=b2f) (l:=x3)
 refine b05 [.tmp 2] [] Tryz.func190 rfl rfl rfl (by simp [Tryz.ntmps190]) ?_
 intro Q0 n0 r0
 simp only [Tryz.ntmps190,b0l,Nat.reduceAdd]
 have T:=Tys.mk (ai Ty.t3 (ai Ty.t4 (ai Ty.t9 (ai Ty.t51 Ty.t99))))
 have F:=Fc.mk True.intro
 refine yR [1] ⟨?_⟩;refine b0c ?_;intros;refine b4y [1,36] ?_;intro K3 k3;refine zq7 ⟨?_⟩;refine zc (b2o _ _ _) ⟨?_⟩;refine f5u ⟨?_⟩;refine zq4 ⟨?_⟩;refine zgc (c3z _) ⟨?_⟩;refine c8f ⟨?_⟩;refine zq6 ⟨?_⟩;refine f6d ⟨?_⟩;refine c4v ⟨?_⟩;refine zq6 ⟨?_⟩;refine d6s ⟨?_⟩;refine zq2 ⟨?_⟩;refine f6d ⟨?_⟩;refine c4v ⟨?_⟩;refine f5c ⟨?_⟩;refine zq6 ⟨?_⟩;refine zgc (d57 x3 hnl) ⟨?_⟩;refine c8f ⟨?_⟩;refine b5v ?_;intro K k
 simp only [zE,zP,b03,b0w,b0m,Nat.reduceEqDiff,reduceIte,Nat.reduceLT,implies_true,forall_const,reduceCtorEq,V.ofValue,V.ofScalar,V.un,V.gd,b1k,aop,d3h]
 repeat (refine ai (by first | (intro h;rw [h];rfl) | omega | (intros;simp_all;done)) ?_)
 refine k _ ?_;clear k K;refine k3 _ ?_;refine zk ⟨?_⟩;refine b0d _ rfl ?_ ?_
 ·intro hc0
  have hh:c1h (x0,x1,x2,x3)=false:=by
   cases hq:c1h (x0,x1,x2,x3) with
   |false=>rfl
   |true=>
    exfalso
    have hq2:(((decide (1≤x0) && decide (x0≤999)) && (decide (0≤x1) && decide (x1≤13)) && !decide (12 < (x3.length:Int)) && !(x2 && decide (0 < (x3.length:Int)))) && b1x b5t b2f x3 0)=true:=hq
    rw [Bool.and_eq_true] at hq2
    have hq3:=hq2.1
    have hq4:b1x (fun _:ByteArray=>true) b2f x3 0=true:=by have q:=hq2.2;rw [hcs,Bool.and_eq_true] at q;exact q.1
    rw [hq4] at hc0
    generalize (x3.length:Int)=m at hc0 hq3
    clear hq hq2 hq4
    cases x2<;>simp at hc0 hq3<;>omega
  refine yR [2] ⟨?_⟩;refine zr ⟨?_⟩
  rw [hh]
  exact b0a rfl rfl (.inl rfl)
 ·intro hc0
  have hb2:b1x (fun _:ByteArray=>true) b2f x3 0=true:=by
   cases q:b1x (fun _:ByteArray=>true) b2f x3 0 with
   |true=>rfl
   |false=>(rw [q] at hc0;simp at hc0)
  have hh:c1h (x0,x1,x2,x3)=x3.all b5t:=by
   have hb:((decide (1≤x0) && decide (x0≤999)) && (decide (0≤x1) && decide (x1≤13)) && !decide (12 < (x3.length:Int)) && !(x2 && decide (0 < (x3.length:Int))))=true:=by
    rw [hb2] at hc0
    generalize (x3.length:Int)=m at hc0⊢
    cases x2<;>simp at hc0⊢<;>omega
   show (((decide (1≤x0) && decide (x0≤999)) && (decide (0≤x1) && decide (x1≤13)) && !decide (12 < (x3.length:Int)) && !(x2 && decide (0 < (x3.length:Int)))) && b1x b5t b2f x3 0)=_
   rw [hb,hcs,hb2];rfl
  refine zn [1] ⟨?_⟩;refine b0c ?_;intros;refine yR [38,39,40] ⟨?_⟩;refine b0g ?_;intros;refine b08 (fun i=>⟨[(38,.sl (x3.map V.str)),(39,.int .i64 x3.length),(40,.int .i64 (Nat.cast i))],[],false,48,0⟩) (fun i=>i≤x3.length∧(x3.drop i).all b5t=x3.all b5t) (fun i=>x3.length - i) 0 ?_ ?_ ?_
  ·refine b0b [38,39,40] [] ⟨?_⟩
   rfl
  ·exact ⟨Nat.zero_le _,rfl⟩
  ·rintro i hok9 Q9 n9 e9 r9
   obtain ⟨hi1,hR⟩:=hok9
   refine yR [38,39,40,41] ⟨?_⟩;refine b0c ?_;intros;refine b0d _ rfl ?_ ?_
   ·intro hc1
    have hlt:i < x3.length:=by omega
    obtain ⟨s,hx⟩:∃s,x3[i]? =some s:=⟨_,List.getElem?_eq_getElem hlt⟩
    have hsx:=hsz s (List.mem_of_getElem? hx)
    have hst:=b5m (p:=b5t) hx
    refine zn [38,39,40] ⟨?_⟩;refine b0c ?_;intros;refine b0g ?_;intros
    have F:=Fc.mk (gdm hx)
    refine yR [4,38,39,40] ⟨?_⟩;refine yRc [38,39,40,46] (c9v s hsx) ⟨?_⟩;refine b0d _ rfl ?_ ?_
    ·intro hc2
     refine yR [2] ⟨?_⟩;refine zr ⟨?_⟩
     rw [hh]
     exact b0a rfl (by rw [←hR,hst];simp [hc2]) (.inl rfl)
    ·intro hc2
     refine zn [38,39,40] ⟨?_⟩;refine yV ⟨?_⟩;refine n9 _ (i+1) ?_ ?_ ?_
     ·refine b0b [38,39,40] [] ⟨?_⟩
      rfl
     ·exact ⟨by omega,by rw [←hR,hst];simp [hc2]⟩
     ·show _ < _;omega
   ·intro hc1
    refine zn [] ⟨?_⟩;refine yR [2] ⟨?_⟩;refine zr ⟨?_⟩
    rw [hh]
    exact b0a rfl (by rw [←hR,b7k (by omega)]) (.inl rfl)
theorem d5q (x0:Int) (x1:Int) (x2:Bool) (x3:List ByteArray) (n:Int):Con Tryz.prog 138 [.agg [V.int .i64 x0,V.int .i64 x1,V.bool x2,V.sl (x3.map V.str)],.pv [.int .i64 n] 0 0] [] (.bool (decide (x0=n) && !x2)) []:=by
 refine b05 [.tmp 3] [] Tryz.func138 rfl rfl rfl (by simp [Tryz.ntmps138]) ?_
 intro Q0 n0 r0
 simp only [Tryz.ntmps138,b0l,Nat.reduceAdd]
 have T:=Tys.mk (ai Ty.t3 (ai Ty.t4 (ai Ty.t9 (ai Ty.t51 Ty.t99))))
 have F:=Fc.mk True.intro
 refine yR [1,2] ⟨?_⟩;refine yR [3] ⟨?_⟩;refine zr ⟨?_⟩
 exact b0a rfl (by first | rfl | simp) (.inl rfl)
theorem c1e (l:List TI) (n:Int) (hl:l.length≤1048576):Con Tryz.prog 66 [.sl (l.map (fun t:TI=>V.agg [V.int .i64 t.1,V.int .i64 t.2.1,V.bool t.2.2.1,V.sl (t.2.2.2.map V.str)])),.int .i64 n] [] (.int .i64 (b5y l n)) []:=by
 refine b05 [.tmp 4] [] Tryz.func66 rfl rfl rfl (by simp [Tryz.ntmps66]) ?_
 intro Q0 n0 r0
 simp only [Tryz.ntmps66,b0l,Nat.reduceAdd]
 have T:=Tys.mk (ai Ty.t3 (ai Ty.t4 (ai Ty.t9 (ai Ty.t33 (ai Ty.t51 Ty.t99)))))
 have F:=Fc.mk True.intro
 refine yR [0,3] ⟨?_⟩;refine yRc [4] (b6r l _ _ (fun x=>decide (x.1=n) && !x.2.2.1) hl (.pv _ .nil) (fun x0 x1 x2 x3 _=>d5q x0 x1 x2 x3 n)) ⟨?_⟩;refine zr ⟨?_⟩
 exact b0a rfl rfl (.inl rfl)
theorem c5t (x0:Int) (x1:Int) (x2:Bool) (x3:List ByteArray) (s:ByteArray) (hlx:x3.length≤1048576):Con Tryz.prog 199 [.agg [V.int .i64 x0,V.int .i64 x1,V.bool x2,V.sl (x3.map V.str)],.pv [.str s] 0 0] [] (.bool (inS s x3)) []:=by
 refine b05 [.tmp 3] [] Tryz.func199 rfl rfl rfl (by simp [Tryz.ntmps199]) ?_
 intro Q0 n0 r0
 simp only [Tryz.ntmps199,b0l,Nat.reduceAdd]
 have T:=Tys.mk (ai Ty.t3 (ai Ty.t4 (ai Ty.t9 (ai Ty.t51 Ty.t99))))
 have F:=Fc.mk True.intro
 refine yR [1,2] ⟨?_⟩;refine yRc [3] (c64 x3 s hlx) ⟨?_⟩;refine zr ⟨?_⟩
 exact b0a rfl rfl (.inl rfl)
theorem b7r (l:List TI) (s:ByteArray) (hl:l.length≤1048576) (hli:∀x∈l,x.2.2.2.length≤1048576):Con Tryz.prog 135 [.sl (l.map (fun t:TI=>V.agg [V.int .i64 t.1,V.int .i64 t.2.1,V.bool t.2.2.1,V.sl (t.2.2.2.map V.str)])),.str s] [] (.int .i64 (c74 l s)) []:=by
 refine b05 [.tmp 4] [] Tryz.func135 rfl rfl rfl (by simp [Tryz.ntmps135]) ?_
 intro Q0 n0 r0
 simp only [Tryz.ntmps135,b0l,Nat.reduceAdd]
 have T:=Tys.mk (ai Ty.t3 (ai Ty.t4 (ai Ty.t9 (ai Ty.t33 (ai Ty.t51 Ty.t99)))))
 have F:=Fc.mk True.intro
 refine yR [0,3] ⟨?_⟩;refine yRc [4] (b6r l _ _ (fun x=>inS s x.2.2.2) hl (.pv _ .nil) (fun x0 x1 x2 x3 hm=>c5t x0 x1 x2 x3 s (hli _ hm))) ⟨?_⟩;refine zr ⟨?_⟩
 exact b0a rfl rfl (.inl rfl)
theorem c9u (l:List TI) (n:Int) (hl:l.length≤1048576):Con Tryz.prog 55 [.sl (l.map (fun t:TI=>V.agg [V.int .i64 t.1,V.int .i64 t.2.1,V.bool t.2.2.1,V.sl (t.2.2.2.map V.str)])),.int .i64 n] [] (.int .i64 (b5y l n)) []:=by
 refine b05 [.tmp 4] [] Tryz.func55 rfl rfl rfl (by simp [Tryz.ntmps55]) ?_
 intro Q0 n0 r0
 simp only [Tryz.ntmps55,b0l,Nat.reduceAdd]
 have T:=Tys.mk (ai Ty.t3 (ai Ty.t4 (ai Ty.t9 (ai Ty.t33 (ai Ty.t51 Ty.t99)))))
 have F:=Fc.mk True.intro
 refine yR [0,1] ⟨?_⟩;refine b0c ?_;intros;refine yR [1,7,8,9] ⟨?_⟩;refine b0g ?_;intros;refine b08 (fun i=>⟨[(1,.int .i64 n),(7,.sl (l.map (fun t:TI=>V.agg [V.int .i64 t.1,V.int .i64 t.2.1,V.bool t.2.2.1,V.sl (t.2.2.2.map V.str)]))),(8,.int .i64 l.length),(9,.int .i64 (Nat.cast i))],[],false,25,0⟩) (fun i=>i≤l.length∧b20 (fun x:TI=>decide (x.1=n) && !x.2.2.1) i (l.drop i)=b20 (fun x:TI=>decide (x.1=n) && !x.2.2.1) 0 l) (fun i=>l.length - i) 0 ?_ ?_ ?_
 ·refine b1a [1,7,8,9] ?_
  simp only [b0s,b0k,b0h,b0i,b0n,Nat.reduceEqDiff,reduceIte]
  rfl
 ·exact ⟨Nat.zero_le _,rfl⟩
 ·rintro i hok5 Q5 n5 e5 r5
  obtain ⟨hi1,hR⟩:=hok5
  refine yR [1,7,8,9,10] ⟨?_⟩;refine b0c ?_;intros;refine b0d _ rfl ?_ ?_
  ·intro hc0
   have hlt:i < l.length:=by omega
   obtain ⟨⟨x0,x1,x2,x3⟩,hx⟩:∃x:TI,l[i]? =some x:=⟨l[i]'(by omega),List.getElem?_eq_getElem (by omega)⟩
   have hst:=b54 (p:=fun x:TI=>decide (x.1=n) && !x.2.2.1) hx
   refine zn [1,7,8,9] ⟨?_⟩;refine b0c ?_;intros;refine b0g ?_;intros
   have F:=Fc.mk (gdm hx)
   refine yR [1,5,6,7,8,9] ⟨?_⟩;refine yR [1,5,7,8,9,22] ⟨?_⟩;refine b0d _ rfl ?_ ?_
   ·intro hc1
    refine yR [4] ⟨?_⟩;refine zr ⟨?_⟩
    exact b0a rfl (by rw [b5y,←hR,hst,if_pos (by simpa using hc1)]) (.inl rfl)
   ·intro hc1
    refine zn [1,7,8,9] ⟨?_⟩;refine yV ⟨?_⟩;refine n5 _ (i+1) ?_ ?_ ?_
    ·refine b0b [1,7,8,9] [] ⟨?_⟩
     rfl
    ·exact ⟨by omega,by rw [←hR,hst,if_neg (by simpa using hc1)]⟩
    ·show _ < _;omega
  ·intro hc0
   refine zn [] ⟨?_⟩;refine yR [4] ⟨?_⟩;refine zr ⟨?_⟩
   exact b0a rfl (by rw [b5y,←hR,b7a (by omega)]) (.inl rfl)
theorem f3l (l:List TI) (s:ByteArray) (hl:l.length≤1048576) (hli:∀x∈l,x.2.2.2.length≤1048576):Con Tryz.prog 122 [.sl (l.map (fun t:TI=>V.agg [V.int .i64 t.1,V.int .i64 t.2.1,V.bool t.2.2.1,V.sl (t.2.2.2.map V.str)])),.str s] [] (.int .i64 (c74 l s)) []:=by
 refine b05 [.tmp 4] [] Tryz.func122 rfl rfl rfl (by simp [Tryz.ntmps122]) ?_
 intro Q0 n0 r0
 simp only [Tryz.ntmps122,b0l,Nat.reduceAdd]
 have T:=Tys.mk (ai Ty.t3 (ai Ty.t4 (ai Ty.t9 (ai Ty.t33 (ai Ty.t51 Ty.t99)))))
 have F:=Fc.mk True.intro
 refine yR [0,1] ⟨?_⟩;refine b0c ?_;intros;refine yR [1,7,8,9] ⟨?_⟩;refine b0g ?_;intros;refine b08 (fun i=>⟨[(1,.str s),(7,.sl (l.map (fun t:TI=>V.agg [V.int .i64 t.1,V.int .i64 t.2.1,V.bool t.2.2.1,V.sl (t.2.2.2.map V.str)]))),(8,.int .i64 l.length),(9,.int .i64 (Nat.cast i))],[],false,20,0⟩) (fun i=>i≤l.length∧b20 (fun x:TI=>inS s x.2.2.2) i (l.drop i)=b20 (fun x:TI=>inS s x.2.2.2) 0 l) (fun i=>l.length - i) 0 ?_ ?_ ?_
 ·refine b1a [1,7,8,9] ?_
  simp only [b0s,b0k,b0h,b0i,b0n,Nat.reduceEqDiff,reduceIte]
  rfl
 ·exact ⟨Nat.zero_le _,rfl⟩
 ·rintro i hok5 Q5 n5 e5 r5
  obtain ⟨hi1,hR⟩:=hok5
  refine yR [1,7,8,9,10] ⟨?_⟩;refine b0c ?_;intros;refine b0d _ rfl ?_ ?_
  ·intro hc0
   have hlt:i < l.length:=by omega
   obtain ⟨⟨x0,x1,x2,x3⟩,hx⟩:∃x:TI,l[i]? =some x:=⟨l[i]'(by omega),List.getElem?_eq_getElem (by omega)⟩
   have hlx:=hli _ (List.mem_of_getElem? hx)
   simp only [] at hlx
   have hst:=b54 (p:=fun x:TI=>inS s x.2.2.2) hx
   refine zn [1,7,8,9] ⟨?_⟩;refine b0c ?_;intros;refine b0g ?_;intros
   have F:=Fc.mk (gdm hx)
   refine yR [1,5,6,7,8,9] ⟨?_⟩;refine yRc [1,5,7,8,9,17] (c7z x3 s hlx) ⟨?_⟩;refine b0d _ rfl ?_ ?_
   ·intro hc1
    refine yR [4] ⟨?_⟩;refine zr ⟨?_⟩
    exact b0a rfl (by rw [c74,←hR,hst,if_pos hc1]) (.inl rfl)
   ·intro hc1
    refine zn [1,7,8,9] ⟨?_⟩;refine yV ⟨?_⟩;refine n5 _ (i+1) ?_ ?_ ?_
    ·refine b0b [1,7,8,9] [] ⟨?_⟩
     rfl
    ·exact ⟨by omega,by rw [←hR,hst,if_neg (by simp [hc1])]⟩
    ·show _ < _;omega
  ·intro hc0
   refine zn [] ⟨?_⟩;refine yR [4] ⟨?_⟩;refine zr ⟨?_⟩
   exact b0a rfl (by rw [c74,←hR,b7a (by omega)]) (.inl rfl)
end Go.Proofs.YtaefoaghpehbpaaGreat
