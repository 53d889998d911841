/- What functions compute. No condition. -/
import Derived.Test.YtaefoaghpehbpaaGreatUz
import Derived.Test.YtaefoaghpehbpaaGreatUty
import Derived.Test.YtaefoaghpehbpaaGreatUmG
import Derived.Test.YtaefoaghpehbpaaGreatX2
import Derived.Test.YtaefoaghpehbpaaGreatX9
import Derived.Test.YtaefoaghpehbpaaGreatX3
import Derived.Test.YtaefoaghpehbpaaGreatX10
import Derived.Test.YtaefoaghpehbpaaGreatX4
import Derived.Test.YtaefoaghpehbpaaGreatX1
set_option linter.unusedSimpArgs false
set_option linter.unusedVariables false
set_option linter.defProp false
namespace Go.Proofs.YtaefoaghpehbpaaGreat
open Go Go.Vm
set_option maxHeartbeats 8000000
def szL {α:Type} (f:Int→α→Int) (n:Int) (l:List α):Int:=if n - (l.length:Int) < 0 then -1 else b28 f (n - (l.length:Int)) l
def d0r (n:Int) (fl:List TA) (ins:List TI) (ws:List TW):Int:=
  if szL b04 n fl < 0 then -1 else if szL b1n (szL b04 n fl) ins < 0 then -1 else if szL b3v (szL b1n (szL b04 n fl) ins) ws < 0 then -1 else szL b3v (szL b1n (szL b04 n fl) ins) ws
theorem d38 {α:Type} {f:Int→α→Int} {n:Int} {l:List α} (hf:∀n t,0≤n→f n t≤n) (h0:0≤n) (hn:n≤1048576) (h:0≤szL f n l):l.length≤1048576∧0≤szL f n l∧szL f n l≤1048576:=f6p hf h0 hn h
theorem d0x {α:Type} {f:Int→α→Int} {n:Int} {l:List α} (h:0≤szL f n l):0≤n - (l.length:Int)∧0≤b28 f (n - (l.length:Int)) l:=by
  unfold szL at h
  split at h<;>omega
theorem f78 {n:Int} {fl:List TA} {ins:List TI} {ws:List TW} (h0:0≤n) (hn:n≤1048576) (h:0≤d0r n fl ins ws) :
    fl.length≤1048576∧ins.length≤1048576∧(∀x∈ins,x.2.2.2.length≤1048576)∧ws.length≤1048576∧(∀x∈ws,x.2.length≤1048576)∧(0≤d0r n fl ins ws∧d0r n fl ins ws≤1048576):=by
  unfold d0r at h⊢
  by_cases a:szL b04 n fl < 0
  · rw [if_pos a] at h;omega
  · rw [if_neg a] at h⊢
    obtain ⟨a1,a2,a3⟩:=d38 b7t h0 hn (by omega:0≤szL b04 n fl)
    by_cases b:szL b1n (szL b04 n fl) ins < 0
    · rw [if_pos b] at h;omega
    · rw [if_neg b] at h⊢
      have hb:0≤szL b1n (szL b04 n fl) ins:=by omega
      obtain ⟨b1,b2,b3⟩:=d38 b6k a2 a3 hb
      by_cases c:szL b3v (szL b1n (szL b04 n fl) ins) ws < 0
      · rw [if_pos c] at h;omega
      · rw [if_neg c] at h⊢
        have hc:0≤szL b3v (szL b1n (szL b04 n fl) ins) ws:=by omega
        obtain ⟨c1,c2,c3⟩:=d38 c4u b2 b3 hc
        refine ⟨a1,b1,fun x hx=> ?_,c1,fun x hx=> ?_,c2,c3⟩
        · have:=c6p (d0x hb).1 (d0x hb).2 x hx;omega
        · have:=d6i (d0x hc).1 (d0x hc).2 x hx;omega
theorem d1l (n:Int) (fl:List TA) (ins:List TI) (ws:List TW) (hn:0≤n∧n≤1048576) (hl:fl.length≤9223372036854775807) (hls:∀t∈fl,t.1.size≤9223372036854775807) (hi:ins.length≤9223372036854775807) (his:∀t∈ins,t.2.2.2.length≤9223372036854775807∧∀s∈t.2.2.2,s.size≤9223372036854775807) (hw:ws.length≤9223372036854775807) (hws:∀t∈ws,t.2.length≤9223372036854775807):Con Tryz.prog 9 [.agg [.sl (fl.map (fun t:TA=>V.agg [V.str t.1,V.int .i64 t.2.1,V.int .i64 t.2.2.1,V.int .i64 t.2.2.2.1,V.int .i64 t.2.2.2.2])),.sl (ins.map (fun t:TI=>V.agg [V.int .i64 t.1,V.int .i64 t.2.1,V.bool t.2.2.1,V.sl (t.2.2.2.map V.str)])),.sl (ws.map (fun t:TW=>V.agg [V.int .i64 t.1,V.sl (t.2.map (V.int .i64))]))],.int .i64 n] [] (.int .i64 (d0r n fl ins ws)) []:=by
 refine b05 [.tmp 4] [] Tryz.func9 rfl rfl rfl (by simp [Tryz.ntmps9]) ?_
 intro Q0 n0 r0
 simp only [Tryz.ntmps9,b0l,Nat.reduceAdd]
 have T:=Tys.mk (ai Ty.t3 (ai Ty.t4 (ai Ty.t9 (ai Ty.t25 (ai Ty.t26 (ai Ty.t27 (ai Ty.t29 (ai Ty.t51 (ai Ty.t75 (ai Ty.t158 (ai Ty.t160 Ty.t162)))))))))))
 have F:=Fc.mk True.intro
 refine yR [1,2] ⟨?_⟩;refine yRc [1,2] ((szApplianceS_con n fl hn hl hls:Con _ _ _ _ (.int .i64 (szL b04 n fl)) _)) ⟨?_⟩;refine b0c ?_;intros;refine yR [1,2,10] ⟨?_⟩;refine b0d _ rfl ?_ ?_
 ·intro hc0
  have z1:szL b04 n fl < 0:=hc0
  refine yR [4] ⟨?_⟩;refine zr ⟨?_⟩
  exact b0a rfl (by rw [d0r,if_pos z1]) (.inl rfl)
 ·intro hc0
  have y1:0≤szL b04 n fl:=hc0
  have z1:¬szL b04 n fl < 0:=by omega
  obtain ⟨b1,q1⟩:=d38 b7t hn.1 hn.2 (by omega:0≤szL b04 n fl)
  refine zn [1,2] ⟨?_⟩;refine yRc [1,2] ((c6i (szL b04 n fl) ins q1 hi his:Con _ _ _ _ (.int .i64 (szL b1n (szL b04 n fl) ins)) _)) ⟨?_⟩;refine b0c ?_;intros;refine yR [1,2,16] ⟨?_⟩;refine b0d _ rfl ?_ ?_
  ·intro hc1
   have z2:szL b1n (szL b04 n fl) ins < 0:=hc1
   refine yR [4] ⟨?_⟩;refine zr ⟨?_⟩
   exact b0a rfl (by rw [d0r,if_neg z1,if_pos z2]) (.inl rfl)
  ·intro hc1
   have y2:0≤szL b1n (szL b04 n fl) ins:=hc1
   have z2:¬szL b1n (szL b04 n fl) ins < 0:=by omega
   obtain ⟨b2,q2⟩:=d38 b6k q1.1 q1.2 (by omega:0≤szL b1n (szL b04 n fl) ins)
   refine zn [1,2] ⟨?_⟩;refine yRc [1] ((d4t (szL b1n (szL b04 n fl) ins) ws q2 hw hws:Con _ _ _ _ (.int .i64 (szL b3v (szL b1n (szL b04 n fl) ins) ws)) _)) ⟨?_⟩;refine b0c ?_;intros;refine yR [1,22] ⟨?_⟩;refine b0d _ rfl ?_ ?_
   ·intro hc2
    have z3:szL b3v (szL b1n (szL b04 n fl) ins) ws < 0:=hc2
    refine yR [4] ⟨?_⟩;refine zr ⟨?_⟩
    exact b0a rfl (by rw [d0r,if_neg z1,if_neg z2,if_pos z3]) (.inl rfl)
   ·intro hc2
    have y3:0≤szL b3v (szL b1n (szL b04 n fl) ins) ws:=hc2
    have z3:¬szL b3v (szL b1n (szL b04 n fl) ins) ws < 0:=by omega
    refine zn [1] ⟨?_⟩;refine yR [4] ⟨?_⟩;refine zr ⟨?_⟩
    exact b0a rfl (by rw [d0r,if_neg z1,if_neg z2,if_neg z3];rfl) (.inl rfl)
theorem d09 (fl:List TA) (ins:List TI) (ws:List TW) (hl:fl.length≤1048576) (hil:ins.length≤1048576) (hin:∀x∈ins,x.2.2.2.length≤1048576) (hwl:ws.length≤1048576) (hwn:∀x∈ws,x.2.length≤1048576):Con Tryz.prog 12 [.agg [.sl (fl.map (fun t:TA=>V.agg [V.str t.1,V.int .i64 t.2.1,V.int .i64 t.2.2.1,V.int .i64 t.2.2.2.1,V.int .i64 t.2.2.2.2])),.sl (ins.map (fun t:TI=>V.agg [V.int .i64 t.1,V.int .i64 t.2.1,V.bool t.2.2.1,V.sl (t.2.2.2.map V.str)])),.sl (ws.map (fun t:TW=>V.agg [V.int .i64 t.1,V.sl (t.2.map (V.int .i64))]))]] [] (.agg [.ref 0,.ref 1,.ref 2]) [.arr (fl.map (fun t:TA=>V.agg [V.str t.1,V.int .i64 t.2.1,V.int .i64 t.2.2.1,V.int .i64 t.2.2.2.1,V.int .i64 t.2.2.2.2])) .flat,.arr (ins.map (fun t:TI=>V.agg [V.int .i64 t.1,V.int .i64 t.2.1,V.bool t.2.2.1,V.sl (t.2.2.2.map V.str)])) (b1v ins.length),.arr (ws.map (fun t:TW=>V.agg [V.int .i64 t.1,V.sl (t.2.map (V.int .i64))])) (b1v ws.length)]:=by
 refine b05 [.cell 2 36] [] Tryz.func12 rfl rfl rfl (by simp [Tryz.ntmps12]) ?_
 intro Q0 n0 r0
 simp only [Tryz.ntmps12,b0l,Nat.reduceAdd]
 have T:=Tys.mk (ai Ty.t3 (ai Ty.t4 (ai Ty.t9 (ai Ty.t25 (ai Ty.t26 (ai Ty.t27 (ai Ty.t29 (ai Ty.t32 (ai Ty.t33 (ai Ty.t34 (ai Ty.t36 (ai Ty.t51 (ai Ty.t75 (ai Ty.t96 (ai Ty.t99 (ai Ty.t102 (ai Ty.t158 (ai Ty.t160 Ty.t162))))))))))))))))))
 have F:=Fc.mk True.intro
 refine yR [1,2] ⟨?_⟩;refine yR [1,2,3] ⟨?_⟩;refine yRc [1,2,3] (c5o fl hl) ⟨?_⟩;refine yRc [1,2,3] (c7y ins hil hin) ⟨?_⟩;refine yRc [2,3] (d48 ws hwl hwn) ⟨?_⟩;refine yR [2] ⟨?_⟩;refine zq3 ⟨?_⟩
 exact c0e [9,10,11] rfl rfl (by decide) rfl (by simp) (by simp [Blk.kindIs,b2g]) rfl
theorem c2l (fl:List TA) (ins:List TI) (ws:List TW) (hl:fl.length≤1048576) (hil:ins.length≤1048576) (hin:∀x∈ins,x.2.2.2.length≤1048576) (hwl:ws.length≤1048576) (hwn:∀x∈ws,x.2.length≤1048576):Con Tryz.prog 14 [.agg [.sl (fl.map (fun t:TA=>V.agg [V.str t.1,V.int .i64 t.2.1,V.int .i64 t.2.2.1,V.int .i64 t.2.2.2.1,V.int .i64 t.2.2.2.2])),.sl (ins.map (fun t:TI=>V.agg [V.int .i64 t.1,V.int .i64 t.2.1,V.bool t.2.2.1,V.sl (t.2.2.2.map V.str)])),.sl (ws.map (fun t:TW=>V.agg [V.int .i64 t.1,V.sl (t.2.map (V.int .i64))]))],.agg [.sl (fl.map (fun t:TA=>V.agg [V.str t.1,V.int .i64 t.2.1,V.int .i64 t.2.2.1,V.int .i64 t.2.2.2.1,V.int .i64 t.2.2.2.2])),.sl (ins.map (fun t:TI=>V.agg [V.int .i64 t.1,V.int .i64 t.2.1,V.bool t.2.2.1,V.sl (t.2.2.2.map V.str)])),.sl (ws.map (fun t:TW=>V.agg [V.int .i64 t.1,V.sl (t.2.map (V.int .i64))]))]] [] (.bool true) []:=by
 refine b05 [.tmp 4] [] Tryz.func14 rfl rfl rfl (by simp [Tryz.ntmps14]) ?_
 intro Q0 n0 r0
 simp only [Tryz.ntmps14,b0l,Nat.reduceAdd]
 have T:=Tys.mk (ai Ty.t3 (ai Ty.t4 (ai Ty.t9 (ai Ty.t32 (ai Ty.t33 (ai Ty.t34 (ai Ty.t36 (ai Ty.t51 (ai Ty.t75 (ai Ty.t96 (ai Ty.t99 Ty.t102)))))))))))
 have F:=Fc.mk True.intro
 refine yR [2,3] ⟨?_⟩;refine b0c ?_;intros;refine yRc [2,3,10] (c5v fl fl hl) ⟨?_⟩;refine b1z _ rfl ?_ ?_
 ·intro hc0
  exfalso;simp at hc0
 ·intro hc0
  try simp only [zC,reduceCtorEq] at hc0
  refine zn [2,3] ⟨?_⟩;refine b0c ?_;intros;refine yRc [2,3,16] (c6y ins ins hil hin) ⟨?_⟩;refine b1z _ rfl ?_ ?_
  ·intro hc1
   exfalso;simp at hc1
  ·intro hc1
   try simp only [zC,reduceCtorEq] at hc1
   refine zn [2,3] ⟨?_⟩;refine b0c ?_;intros;refine yRc [22] (d4y ws ws hwl hwn) ⟨?_⟩;refine b1z _ rfl ?_ ?_
   ·intro hc2
    exfalso;simp at hc2
   ·intro hc2
    try simp only [zC,reduceCtorEq] at hc2
    refine zn [] ⟨?_⟩;refine yR [4] ⟨?_⟩;refine zr ⟨?_⟩
    exact b0a rfl rfl (.inl rfl)
def b3t (k:Int) (n:Nat):List ByteArray:=b5f (fun j:Nat=>b8k (k+(j:Int))) n
theorem c18 (k:Int) (n:Nat):(b3t k n).length=n:=b7j _ _
theorem d7t {k:Int} {n i:Nat} (h:i < n):(b3t k n)[i]? =some (b8k (k+(i:Int))):=by
  simp [b3t,b5f,List.getElem?_map,List.getElem?_range h]
theorem b97 (l:List ByteArray) (k:Int) (hl:l.length≤1048576) (hk:0≤k∧k≤1000000000000000):Con Tryz.prog 24 [.ref 0,.int .i64 k] [.arr (l.map V.str) .flat] (.int .i64 (k+l.length)) [.arr ((b3t k l.length).map V.str) .flat]:=by
 refine b05 [.tmp 4] [] Tryz.func24 rfl rfl rfl (by simp [Tryz.ntmps24]) ?_
 intro Q0 n0 r0
 simp only [Tryz.ntmps24,b0l,Nat.reduceAdd]
 have T:=Tys.mk (ai Ty.t3 (ai Ty.t9 Ty.t51))
 have F:=Fc.mk True.intro
 refine yR [0,1] ⟨?_⟩;refine b0c ?_;intros;refine yR [0,1,5] ⟨?_⟩;refine b0g ?_;intros;refine b08 (fun i=>⟨[(0,.ref 0),(1,.int .i64 (k+Nat.cast i)),(5,.int .i64 (Nat.cast i))],[.arr ((b5f (fun j:Nat=>b8k (k+(j:Int))) i++l.drop i).map V.str) .flat],false,20,0⟩) (fun i=>i≤l.length) (fun i=>l.length - i) 0 ?_ ?_ ?_
 ·refine b0b [0,1,5] [0] ⟨?_⟩
  simp [b5f]
 ·exact Nat.zero_le _
 ·rintro i hok5 Q5 n5 e5 r5
  have hi1:i≤l.length:=hok5
  refine b0c ?_;intros;refine yR [0,1,5,9] ⟨?_⟩;refine b0d _ rfl ?_ ?_
  ·intro hc0
   have hml:=b8y (g:=(fun j:Nat=>b8k (k+(j:Int)))) hi1
   rw [hml] at hc0
   have hlt:i < l.length:=by omega
   obtain ⟨x,hx⟩:∃x,l[i]? =some x:=⟨l[i],List.getElem?_eq_getElem hlt⟩
   have hmg:=c7b (g:=(fun j:Nat=>b8k (k+(j:Int)))) hx
   have hms:=c3x (g:=(fun j:Nat=>b8k (k+(j:Int)))) hx
   refine zn [0,1,5] ⟨?_⟩;refine b0c ?_;intros;refine b0g ?_;intros
   have F:=Fc.mk (ai (gdm hmg) (ai hml (ai @b3k hms)))
   refine yRc [0,1,5] (b73 (k+(i:Int)) (by omega)) ⟨?_⟩;refine yQ [0,1,5] ⟨?_⟩;refine yV ⟨?_⟩;refine n5 _ (i+1) ?_ ?_ ?_
   ·refine b0b [0,1,5] [0] ⟨?_⟩
    rw [show (k+(i:Int)+1)=k+((i+1:Nat):Int) by omega];rfl
   ·exact hlt
   ·show _ < _;omega
  ·intro hc0
   rw [b8y (g:=(fun j:Nat=>b8k (k+(j:Int)))) hi1] at hc0
   refine zn [1] ⟨?_⟩;refine yR [4] ⟨?_⟩;refine zr ⟨?_⟩
   have hend:i=l.length:=by omega
   subst hend
   exact b4f rfl (by simp) rfl (by simp [b3t]) (by simp [Blk.kindIs]) (.inl rfl)
theorem c7x (k:Int) (n:Nat) (hl:n≤1048576) (hk:0≤k∧k≤1000000000000000):Con Tryz.prog 25 [.sl ((b3t k n).map V.str),.int .i64 k] [] (.int .i64 (k+n)) []:=by
 refine b05 [.tmp 4] [] Tryz.func25 rfl rfl rfl (by simp [Tryz.ntmps25]) ?_
 intro Q0 n0 r0
 simp only [Tryz.ntmps25,b0l,Nat.reduceAdd]
 have T:=Tys.mk (ai Ty.t3 (ai Ty.t9 Ty.t51))
 have F:=Fc.mk True.intro
 refine yR [0,1] ⟨?_⟩;refine b0c ?_;intros;refine yR [0,1,5] ⟨?_⟩;refine b0g ?_;intros;refine b08 (fun i=>⟨[(0,.sl ((b3t k n).map V.str)),(1,.int .i64 (k+Nat.cast i)),(5,.int .i64 (Nat.cast i))],[],false,22,0⟩) (fun i=>i≤n) (fun i=>n - i) 0 ?_ ?_ ?_
 ·refine b1a [0,1,5] ?_
  simp only [b0s,b0k,b0h,b0i,b0n,Nat.reduceEqDiff,reduceIte]
  simp
 ·exact Nat.zero_le _
 ·rintro i hok5 Q5 n5 e5 r5
  have hi1:i≤n:=hok5
  refine b0c ?_;intros;refine yR [0,1,5,9] ⟨?_⟩;refine b0d _ rfl ?_ ?_
  ·intro hc0
   rw [c18] at hc0
   have hlt:i < n:=by omega
   have hx:=d7t (k:=k) hlt
   refine zn [0,1,5] ⟨?_⟩;refine b0c ?_;intros;refine b0g ?_;intros;refine b0c ?_;intros;refine b0c ?_;intro Q12 n12 e12 r12;refine b1p (by kernel_rfl) ?_;intro K13 q13 k13
   show b14 _ _ _ _ 7 (Array.replicate 7 false) _
   have F:=Fc.mk (ai (gdm hx) @c18)
   refine b0o q13 true 0 12 ?_;refine b0o q13 true 1 13 ?_;refine b07 q13 true 2 14 ?_;refine b1h q13 true 3 15 ?_;refine b0o q13 true 4 16 ?_;refine zoc 5 (b73 (k+(i:Int)) (by omega)) ⟨?_⟩;refine b2a q13 true 6 18 ?_;refine b0j (by kernel_rfl) ?_;refine k13 _ ?_;refine n12 _ _ (b0f [0,1,5,18] _) ?_;refine zk ⟨?_⟩;refine b1z _ rfl ?_ ?_
   ·intro hc1
    exfalso;simp at hc1
   ·intro hc1
    try simp only [zC,reduceCtorEq] at hc1
    refine zn [0,1,5] ⟨?_⟩;refine yQ [0,1,5] ⟨?_⟩;refine yV ⟨?_⟩;refine n5 _ (i+1) ?_ ?_ ?_
    ·refine b0b [0,1,5] [] ⟨?_⟩
     rw [show (k+(i:Int)+1)=k+((i+1:Nat):Int) by omega];rfl
    ·exact hlt
    ·show _ < _;omega
  ·intro hc0
   rw [c18] at hc0
   refine zn [1] ⟨?_⟩;refine yR [4] ⟨?_⟩;refine zr ⟨?_⟩
   have hend:i=n:=by omega
   subst hend
   exact b0a rfl rfl (.inl rfl)
def c1b (kk:Int) (n:Nat):List TS:=b5f (fun j:Nat=>((kk+3 * (j:Int)),(kk+3 * (j:Int)+1),(kk+3 * (j:Int)+1+1))) n
theorem c8b (l:List TS) (kk:Int) (hl:l.length≤1048576) (hk:0≤kk∧kk≤1000000000000000):Con Tryz.prog 75 [.ref 0,.int .i64 kk] [.arr (l.map (fun t:TS=>V.agg [V.int .i64 t.1,V.int .i64 t.2.1,V.int .i64 t.2.2])) .flat] (.int .i64 (kk+3 * l.length)) [.arr ((c1b kk l.length).map (fun t:TS=>V.agg [V.int .i64 t.1,V.int .i64 t.2.1,V.int .i64 t.2.2])) .flat]:=by
 refine b05 [.tmp 4] [] Tryz.func75 rfl rfl rfl (by simp [Tryz.ntmps75]) ?_
 intro Q0 n0 r0
 simp only [Tryz.ntmps75,b0l,Nat.reduceAdd]
 have T:=Tys.mk (ai Ty.t3 (ai Ty.t39 Ty.t169))
 have F:=Fc.mk True.intro
 refine yR [0,1] ⟨?_⟩;refine b0c ?_;intros;refine yR [0,1,5] ⟨?_⟩;refine b0g ?_;intros;refine b08 (fun i=>⟨[(0,.ref 0),(1,.int .i64 (kk+3 * (Nat.cast i))),(5,.int .i64 (Nat.cast i))],[.arr ((b5f (fun j:Nat=>((kk+3 * (j:Int)),(kk+3 * (j:Int)+1),(kk+3 * (j:Int)+1+1))) i++l.drop i).map (fun t:TS=>V.agg [V.int .i64 t.1,V.int .i64 t.2.1,V.int .i64 t.2.2])) .flat],false,34,0⟩) (fun i=>i≤l.length) (fun i=>l.length - i) 0 ?_ ?_ ?_
 ·refine b0b [0,1,5] [0] ⟨?_⟩
  simp [b5f]
 ·exact Nat.zero_le _
 ·rintro i hok5 Q5 n5 e5 r5
  have hi1:i≤l.length:=hok5
  refine b0c ?_;intros;refine yR [0,1,5,9] ⟨?_⟩;refine b0d _ rfl ?_ ?_
  ·intro hc0
   have hml:=b8y (g:=(fun j:Nat=>((kk+3 * (j:Int)),(kk+3 * (j:Int)+1),(kk+3 * (j:Int)+1+1)))) hi1
   rw [hml] at hc0
   have hlt:i < l.length:=by omega
   obtain ⟨⟨x0,x1,x2⟩,hx⟩:∃x:TS,l[i]? =some x:=⟨l[i]'(by omega),List.getElem?_eq_getElem (by omega)⟩
   have hmg:=c7b (g:=(fun j:Nat=>((kk+3 * (j:Int)),(kk+3 * (j:Int)+1),(kk+3 * (j:Int)+1+1)))) hx
   have hms:((b5f (fun j:Nat=>((kk+3 * (j:Int)),(kk+3 * (j:Int)+1),(kk+3 * (j:Int)+1+1))) i++l.drop i).map (fun t:TS=>V.agg [V.int .i64 t.1,V.int .i64 t.2.1,V.int .i64 t.2.2])).set i (.agg [V.int .i64 (kk+3 * (i:Int)),V.int .i64 (kk+3 * (i:Int)+1),V.int .i64 (kk+3 * (i:Int)+1+1)])=(b5f (fun j:Nat=>((kk+3 * (j:Int)),(kk+3 * (j:Int)+1),(kk+3 * (j:Int)+1+1))) (i+1)++l.drop (i+1)).map (fun t:TS=>V.agg [V.int .i64 t.1,V.int .i64 t.2.1,V.int .i64 t.2.2]):=by
    have h:=b3k (f:=(fun t:TS=>V.agg [V.int .i64 t.1,V.int .i64 t.2.1,V.int .i64 t.2.2])) (l:=(b5f (fun j:Nat=>((kk+3 * (j:Int)),(kk+3 * (j:Int)+1),(kk+3 * (j:Int)+1+1))) i++l.drop i)) (i:=i) (x:=(fun j:Nat=>((kk+3 * (j:Int)),(kk+3 * (j:Int)+1),(kk+3 * (j:Int)+1+1))) i)
    rw [c3x hx] at h
    exact h
   refine zn [0,1,5] ⟨?_⟩;refine b0c ?_;intros;refine b0g ?_;intros
   have F:=Fc.mk (ai (gdm hmg) (ai hml (ai @b76 (ai hlt (ai @List.length_set.{0} (ai @List.set_set.{0} hms))))))
   refine yR [0,1,5] ⟨?_⟩;refine yR [0,1,5] ⟨?_⟩;refine yR [0,1,5] ⟨?_⟩;refine yR [0,1,5] ⟨?_⟩;refine yR [0,1,5] ⟨?_⟩;refine yQ [0,1,5] ⟨?_⟩;refine yV ⟨?_⟩;refine n5 _ (i+1) ?_ ?_ ?_
   ·refine b0b [0,1,5] [0] ⟨?_⟩
    simp only [b76,List.length_map,hml,hlt,List.length_set,List.set_set,hms,List.take_succ_cons,List.take_zero,List.drop_succ_cons,List.drop_zero,List.drop_nil,List.cons_append,List.nil_append,List.append_nil];rw [show (kk+3 * (i:Int)+1+1+1)=kk+3 * ((i+1:Nat):Int) by omega];rfl
   ·exact hlt
   ·show _ < _;omega
  ·intro hc0
   rw [b8y (g:=(fun j:Nat=>((kk+3 * (j:Int)),(kk+3 * (j:Int)+1),(kk+3 * (j:Int)+1+1)))) hi1] at hc0
   refine zn [1] ⟨?_⟩;refine yR [4] ⟨?_⟩;refine zr ⟨?_⟩
   have hend:i=l.length:=by omega
   subst hend
   exact b4f rfl (by simp) rfl (by simp [c1b]) (by simp [Blk.kindIs]) (.inl rfl)
def b2t (kk:Int) (n:Nat):List TA:=b5f (fun j:Nat=>(b8k (kk+5 * (j:Int)),(kk+5 * (j:Int)+1),(kk+5 * (j:Int)+1+1),(kk+5 * (j:Int)+1+1+1),(kk+5 * (j:Int)+1+1+1+1))) n
theorem c2r (l:List TA) (kk:Int) (hl:l.length≤1048576) (hk:0≤kk∧kk≤1000000000000000):Con Tryz.prog 76 [.ref 0,.int .i64 kk] [.arr (l.map (fun t:TA=>V.agg [V.str t.1,V.int .i64 t.2.1,V.int .i64 t.2.2.1,V.int .i64 t.2.2.2.1,V.int .i64 t.2.2.2.2])) .flat] (.int .i64 (kk+5 * l.length)) [.arr ((b2t kk l.length).map (fun t:TA=>V.agg [V.str t.1,V.int .i64 t.2.1,V.int .i64 t.2.2.1,V.int .i64 t.2.2.2.1,V.int .i64 t.2.2.2.2])) .flat]:=by
 refine b05 [.tmp 4] [] Tryz.func76 rfl rfl rfl (by simp [Tryz.ntmps76]) ?_
 intro Q0 n0 r0
 simp only [Tryz.ntmps76,b0l,Nat.reduceAdd]
 have T:=Tys.mk (ai Ty.t3 (ai Ty.t9 (ai Ty.t32 Ty.t96)))
 have F:=Fc.mk True.intro
 refine yR [0,1] ⟨?_⟩;refine b0c ?_;intros;refine yR [0,1,5] ⟨?_⟩;refine b0g ?_;intro Q4 n4 x4 e4 r4;refine b08 (fun i=>⟨[(0,.ref 0),(1,.int .i64 (kk+5 * (Nat.cast i))),(5,.int .i64 (Nat.cast i))],[.arr ((b5f (fun j:Nat=>(b8k (kk+5 * (j:Int)),(kk+5 * (j:Int)+1),(kk+5 * (j:Int)+1+1),(kk+5 * (j:Int)+1+1+1),(kk+5 * (j:Int)+1+1+1+1))) i++l.drop i).map (fun t:TA=>V.agg [V.str t.1,V.int .i64 t.2.1,V.int .i64 t.2.2.1,V.int .i64 t.2.2.2.1,V.int .i64 t.2.2.2.2])) .flat],false,49,0⟩) (fun i=>i≤l.length) (fun i=>l.length - i) 0 ?_ ?_ ?_
 ·refine b0b [0,1,5] [0] ⟨?_⟩
  simp [b5f]
 ·exact Nat.zero_le _
 ·rintro i hok5 Q5 n5 e5 r5
  have hi1:i≤l.length:=hok5
  refine b0c ?_;intros;refine yR [0,1,5,9] ⟨?_⟩;refine b0d _ rfl ?_ ?_
  ·intro hc0
   have hml:=b8y (g:=(fun j:Nat=>(b8k (kk+5 * (j:Int)),(kk+5 * (j:Int)+1),(kk+5 * (j:Int)+1+1),(kk+5 * (j:Int)+1+1+1),(kk+5 * (j:Int)+1+1+1+1)))) hi1
   rw [hml] at hc0
   have hlt:i < l.length:=by omega
   obtain ⟨⟨x0,x1,x2,x3,x4⟩,hx⟩:∃x:TA,l[i]? =some x:=⟨l[i]'(by omega),List.getElem?_eq_getElem (by omega)⟩
   have hmg:=c7b (g:=(fun j:Nat=>(b8k (kk+5 * (j:Int)),(kk+5 * (j:Int)+1),(kk+5 * (j:Int)+1+1),(kk+5 * (j:Int)+1+1+1),(kk+5 * (j:Int)+1+1+1+1)))) hx
   have hms:((b5f (fun j:Nat=>(b8k (kk+5 * (j:Int)),(kk+5 * (j:Int)+1),(kk+5 * (j:Int)+1+1),(kk+5 * (j:Int)+1+1+1),(kk+5 * (j:Int)+1+1+1+1))) i++l.drop i).map (fun t:TA=>V.agg [V.str t.1,V.int .i64 t.2.1,V.int .i64 t.2.2.1,V.int .i64 t.2.2.2.1,V.int .i64 t.2.2.2.2])).set i (.agg [V.str (b8k (kk+5 * (i:Int))),V.int .i64 (kk+5 * (i:Int)+1),V.int .i64 (kk+5 * (i:Int)+1+1),V.int .i64 (kk+5 * (i:Int)+1+1+1),V.int .i64 (kk+5 * (i:Int)+1+1+1+1)])=(b5f (fun j:Nat=>(b8k (kk+5 * (j:Int)),(kk+5 * (j:Int)+1),(kk+5 * (j:Int)+1+1),(kk+5 * (j:Int)+1+1+1),(kk+5 * (j:Int)+1+1+1+1))) (i+1)++l.drop (i+1)).map (fun t:TA=>V.agg [V.str t.1,V.int .i64 t.2.1,V.int .i64 t.2.2.1,V.int .i64 t.2.2.2.1,V.int .i64 t.2.2.2.2]):=by
    have h:=b3k (f:=(fun t:TA=>V.agg [V.str t.1,V.int .i64 t.2.1,V.int .i64 t.2.2.1,V.int .i64 t.2.2.2.1,V.int .i64 t.2.2.2.2])) (l:=(b5f (fun j:Nat=>(b8k (kk+5 * (j:Int)),(kk+5 * (j:Int)+1),(kk+5 * (j:Int)+1+1),(kk+5 * (j:Int)+1+1+1),(kk+5 * (j:Int)+1+1+1+1))) i++l.drop i)) (i:=i) (x:=(fun j:Nat=>(b8k (kk+5 * (j:Int)),(kk+5 * (j:Int)+1),(kk+5 * (j:Int)+1+1),(kk+5 * (j:Int)+1+1+1),(kk+5 * (j:Int)+1+1+1+1))) i)
    rw [c3x hx] at h
    exact h
   refine zn [0,1,5] ⟨?_⟩;refine b0c ?_;intros;refine b0g ?_;intros
   have F:=Fc.mk (ai (gdm hmg) (ai hml (ai @b76 (ai hlt (ai @List.length_set.{0} (ai @List.set_set.{0} hms))))))
   refine yRc [0,1,5] (b73 (kk+5 * (i:Int)) (by omega)) ⟨?_⟩;refine yR [0,1,5] ⟨?_⟩;refine yR [0,1,5] ⟨?_⟩;refine yR [0,1,5] ⟨?_⟩;refine yR [0,1,5] ⟨?_⟩;refine yR [0,1,5] ⟨?_⟩;refine yR [0,1,5] ⟨?_⟩;refine yR [0,1,5] ⟨?_⟩;refine yR [0,1,5] ⟨?_⟩;refine yQ [0,1,5] ⟨?_⟩;refine yV ⟨?_⟩;refine n5 _ (i+1) ?_ ?_ ?_
   ·refine b0b [0,1,5] [0] ⟨?_⟩
    simp only [b76,List.length_map,hml,hlt,List.length_set,List.set_set,hms,List.take_succ_cons,List.take_zero,List.drop_succ_cons,List.drop_zero,List.drop_nil,List.cons_append,List.nil_append,List.append_nil];rw [show (kk+5 * (i:Int)+1+1+1+1+1)=kk+5 * ((i+1:Nat):Int) by omega];rfl
   ·exact hlt
   ·show _ < _;omega
  ·intro hc0
   rw [b8y (g:=(fun j:Nat=>(b8k (kk+5 * (j:Int)),(kk+5 * (j:Int)+1),(kk+5 * (j:Int)+1+1),(kk+5 * (j:Int)+1+1+1),(kk+5 * (j:Int)+1+1+1+1)))) hi1] at hc0
   refine zn [1] ⟨?_⟩;refine yR [4] ⟨?_⟩;refine zr ⟨?_⟩
   have hend:i=l.length:=by omega
   subst hend
   exact b4f rfl (by simp) rfl (by simp [b2t]) (by simp [Blk.kindIs]) (.inl rfl)
theorem b7o (kk:Int) (n:Nat):(b2t kk n).length=n:=b7j _ _
theorem c8v {kk:Int} {n i:Nat} (h:i < n):(b2t kk n)[i]? =some ((fun j:Nat=>(b8k (kk+5 * (j:Int)),(kk+5 * (j:Int)+1),(kk+5 * (j:Int)+1+1),(kk+5 * (j:Int)+1+1+1),(kk+5 * (j:Int)+1+1+1+1))) i):=by
  simp [b2t,b5f,List.getElem?_map,List.getElem?_range h]
theorem c2p (kk:Int) (n:Nat) (hl:n≤1048576) (hk:0≤kk∧kk≤1000000000000000):Con Tryz.prog 79 [.sl ((b2t kk n).map (fun t:TA=>V.agg [V.str t.1,V.int .i64 t.2.1,V.int .i64 t.2.2.1,V.int .i64 t.2.2.2.1,V.int .i64 t.2.2.2.2])),.int .i64 kk] [] (.int .i64 (kk+5 * n)) []:=by
 refine b05 [.tmp 4] [] Tryz.func79 rfl rfl rfl (by simp [Tryz.ntmps79]) ?_
 intro Q0 n0 r0
 simp only [Tryz.ntmps79,b0l,Nat.reduceAdd]
 have T:=Tys.mk (ai Ty.t3 (ai Ty.t9 (ai Ty.t32 Ty.t96)))
 have F:=Fc.mk True.intro
 refine yR [0,1] ⟨?_⟩;refine b0c ?_;intros;refine yR [0,1,5] ⟨?_⟩;refine b0g ?_;intros;refine b08 (fun i=>⟨[(0,.sl ((b2t kk n).map (fun t:TA=>V.agg [V.str t.1,V.int .i64 t.2.1,V.int .i64 t.2.2.1,V.int .i64 t.2.2.2.1,V.int .i64 t.2.2.2.2]))),(1,.int .i64 (kk+5 * (Nat.cast i))),(5,.int .i64 (Nat.cast i))],[],false,59,0⟩) (fun i=>i≤n) (fun i=>n - i) 0 ?_ ?_ ?_
 ·refine b1a [0,1,5] ?_
  simp only [b0s,b0k,b0h,b0i,b0n,Nat.reduceEqDiff,reduceIte]
  simp
 ·exact Nat.zero_le _
 ·rintro i hok5 Q5 n5 e5 r5
  have hi1:i≤n:=hok5
  refine b0c ?_;intros;refine yR [0,1,5,9] ⟨?_⟩;refine b0d _ rfl ?_ ?_
  ·intro hc0
   rw [b7o] at hc0
   have hlt:i < n:=by omega
   have hx:=c8v (kk:=kk) hlt
   refine zn [0,1,5] ⟨?_⟩;refine b0c ?_;intros;refine b0g ?_;intros;refine b0c ?_;intros;refine b0c ?_;intro Q12 n12 e12 r12;refine b1p (by kernel_rfl) ?_;intro K13 q13 k13
   show b14 _ _ _ _ 8 (Array.replicate 8 false) _
   have F:=Fc.mk (ai (gdm hx) @b7o)
   refine b0o q13 true 0 12 ?_;refine b0o q13 true 1 13 ?_;refine b07 q13 true 2 14 ?_;refine b0p q13 true 3 15 ?_;refine b1h q13 true 4 16 ?_;refine b0o q13 true 5 17 ?_;refine zoc 6 (b73 (kk+5 * (i:Int)) (by omega)) ⟨?_⟩;refine b2a q13 true 7 19 ?_;refine b0j (by kernel_rfl) ?_;refine k13 _ ?_;refine n12 _ _ (b0f [0,1,5,19] _) ?_;refine zk ⟨?_⟩;refine b1z _ rfl ?_ ?_
   ·intro hc1
    exfalso;first | (simp at hc1;done) | (simp at hc1;omega)
   ·intro hc1
    try simp only [zC,reduceCtorEq] at hc1
    refine zn [0,1,5] ⟨?_⟩;refine yR [0,1,5] ⟨?_⟩;refine b0c ?_;intros;refine yR [0,1,5,28] ⟨?_⟩;refine b1z _ rfl ?_ ?_
    ·intro hc2
     exfalso;first | (simp at hc2;done) | (simp at hc2;omega)
    ·intro hc2
     try simp only [zC,reduceCtorEq] at hc2
     refine zn [0,1,5] ⟨?_⟩;refine yR [0,1,5] ⟨?_⟩;refine b0c ?_;intros;refine yR [0,1,5,37] ⟨?_⟩;refine b1z _ rfl ?_ ?_
     ·intro hc3
      exfalso;first | (simp at hc3;done) | (simp at hc3;omega)
     ·intro hc3
      try simp only [zC,reduceCtorEq] at hc3
      refine zn [0,1,5] ⟨?_⟩;refine yR [0,1,5] ⟨?_⟩;refine b0c ?_;intros;refine yR [0,1,5,46] ⟨?_⟩;refine b1z _ rfl ?_ ?_
      ·intro hc4
       exfalso;first | (simp at hc4;done) | (simp at hc4;omega)
      ·intro hc4
       try simp only [zC,reduceCtorEq] at hc4
       refine zn [0,1,5] ⟨?_⟩;refine yR [0,1,5] ⟨?_⟩;refine b0c ?_;intros;refine yR [0,1,5,55] ⟨?_⟩;refine b1z _ rfl ?_ ?_
       ·intro hc5
        exfalso;first | (simp at hc5;done) | (simp at hc5;omega)
       ·intro hc5
        try simp only [zC,reduceCtorEq] at hc5
        refine zn [0,1,5] ⟨?_⟩;refine yQ [0,1,5] ⟨?_⟩;refine yV ⟨?_⟩;refine n5 _ (i+1) ?_ ?_ ?_
        ·refine b1a [0,1,5] ?_
         simp only [b0s,b0k,b0h,b0i,b0n,Nat.reduceEqDiff,reduceIte]
         rw [show (kk+5 * (i:Int)+1+1+1+1+1)=kk+5 * ((i+1:Nat):Int) by omega];rfl
        ·exact hlt
        ·show _ < _;omega
  ·intro hc0
   rw [b7o] at hc0
   refine zn [1] ⟨?_⟩;refine yR [4] ⟨?_⟩;refine zr ⟨?_⟩
   have hend:i=n:=by omega
   subst hend
   exact b0a rfl rfl (.inl rfl)
theorem d4b (n:Int) (ss:List TS) (k:Int) (hl:ss.length≤1048576) (hk:0≤k∧k≤1000000000000000):Con Tryz.prog 16 [.agg [.int .i64 n,.ref 0],.int .i64 k] [.arr (ss.map (fun t:TS=>V.agg [V.int .i64 t.1,V.int .i64 t.2.1,V.int .i64 t.2.2])) .flat] (.int .i64 (k+3 * ss.length)) [.arr ((c1b k ss.length).map (fun t:TS=>V.agg [V.int .i64 t.1,V.int .i64 t.2.1,V.int .i64 t.2.2])) .flat]:=by
 refine b05 [.tmp 4] [(75,[0])] Tryz.func16 rfl rfl rfl (by simp [Tryz.ntmps16]) ?_
 intro Q0 n0 r0
 simp only [Tryz.ntmps16,b0l,Nat.reduceAdd]
 have T:=Tys.mk (ai Ty.t3 (ai Ty.t39 (ai Ty.t41 Ty.t169)))
 have F:=Fc.mk True.intro
 refine yR [1,2] ⟨?_⟩;refine yRl [1] (c8b ss k hl hk) ⟨?_⟩;refine yR [4] ⟨?_⟩;refine zr ⟨?_⟩
 exact b4f rfl (by simp) rfl (by simp) (by simp [Blk.kindIs]) (.inl rfl)
theorem c5f (k0:Int):Con Tryz.prog 24 [.sl [],.int .i64 k0] [] (.int .i64 k0) []:=by
 refine b05 [.tmp 4] [] Tryz.func24 rfl rfl rfl (by simp [Tryz.ntmps24]) ?_
 intro Q0 n0 r0
 simp only [Tryz.ntmps24,b0l,Nat.reduceAdd]
 have T:=Tys.mk (ai Ty.t3 (ai Ty.t9 Ty.t51))
 have F:=Fc.mk True.intro
 refine yR [0,1] ⟨?_⟩;refine b0c ?_;intros;refine yR [0,1,5] ⟨?_⟩;refine b0g ?_;intros;refine b08 (fun i=>⟨[(0,.sl []),(1,.int .i64 k0),(5,.int .i64 0)],[],false,20,0⟩) (fun i=>True) (fun i=>0) () ?_ ?_ ?_
 ·refine b1a [0,1,5] ?_
  simp only [b0s,b0k,b0h,b0i,b0n,Nat.reduceEqDiff,reduceIte]
  all_goals rfl
 ·trivial
 ·rintro i hok5 Q5 n5 e5 r5
  have hok:True:=hok5
  refine b0c ?_;intros;refine yR [0,1,5,9] ⟨?_⟩;refine b1z _ rfl ?_ ?_
  ·intro hc0
   exfalso;simp at hc0
  ·intro hc0
   try simp only [zC,reduceCtorEq] at hc0
   refine zn [1] ⟨?_⟩;refine yR [4] ⟨?_⟩;refine zr ⟨?_⟩
   exact b0a rfl rfl (.inl rfl)
def b2d:Int→List TW→List TW
  | _,[]=>[]
  | k,t::l=>(k,b19 (k+1) t.2.length)::b2d (k+1+t.2.length) l
def b3m:List TW→Int
  | []=>0
  | t::l=>1+t.2.length+b3m l
theorem b49:∀l:List TW,0≤b3m l
  | []=>Int.le_refl _
  | t::l=>by have:=b49 l;rw [b3m];omega
theorem b6h:∀{l:List TW},(∀t∈l,t.2.length≤1048576)→b3m l≤1048580 * l.length
  | [],_=>Int.le_refl _
  | t::l,h=>by
    have h1:=b6h (l:=l) fun x hx=>h x (List.mem_cons_of_mem _ hx)
    have h2:=h t (List.mem_cons_self ..)
    rw [b3m,List.length_cons];omega
theorem c5c {l:List TW} {i:Nat} {t:TW} (h:l[i]? =some t):b3m (l.drop i)=1+t.2.length+b3m (l.drop (i+1)):=by
  rw [b0r h,b3m]
theorem c60 {l:List TW} {i:Nat} (h:l.length≤i):b3m (l.drop i)=0:=by
  rw [List.drop_of_length_le h];rfl
theorem b6w:∀(l:List TW) (k:Int),(b2d k l).length=l.length
  | [],_=>rfl
  | t::l,k=>by rw [b2d,List.length_cons,List.length_cons,b6w l]
theorem f7v {cur:List TW} {i:Nat} {t:TW} (h:cur[i]? =some t):(b3c (fun t:TW=>[V.int .i64 t.1]) (fun t:TW=>t.2) 1 1 cur).getD i .any=V.agg [V.int .i64 t.1,c53 (1+2 * i+1) t.2]:=by
  rw [List.getD_eq_getElem?_getD,c2u h];rfl
theorem f6z {cur:List TW} {i:Nat} {t u:TW} (h1:[V.int .i64 t.1]=[V.int .i64 u.1]) (h:t.2.isEmpty=u.2.isEmpty):(b3c (fun t:TW=>[V.int .i64 t.1]) (fun t:TW=>t.2) 1 1 (cur.set i t))=(b3c (fun t:TW=>[V.int .i64 t.1]) (fun t:TW=>t.2) 1 1 (cur.set i u)):=by
  rw [←b7s (pre:=(fun t:TW=>[V.int .i64 t.1])) (sl:=(fun t:TW=>t.2)) (n:=1) (t:=t),←b7s (pre:=(fun t:TW=>[V.int .i64 t.1])) (sl:=(fun t:TW=>t.2)) (n:=1) (t:=u),d0o,d0o,c53,c53,h1,h]
theorem f60 {b:Blk} {cur:List TW} {i:Nat} {t:TW} (h:cur[i]? =some t) (hne:t.2.isEmpty=false):(b::(b5g (V.int .i64) ((cur).flatMap (b83 (fun t:TW=>[V.int .i64 t.1]) (fun t:TW=>t.2)))))[1+2 * i+1]? =some (.arr (t.2.map (V.int .i64)) .flat):=by
  rw [show 1+2 * i+1=(2 * i+1)+1 by omega,List.getElem?_cons_succ,c2q (pre:=(fun t:TW=>[V.int .i64 t.1])) (sl:=(fun t:TW=>t.2)) (n:=1) (fun _=>rfl) h]
  simp [d53,hne]
theorem d5i:∀(l:List TW) (N:Nat),∀x∈(b3c (fun t:TW=>[V.int .i64 t.1]) (fun t:TW=>t.2) 1 N l),x.cells.length=2
  | [],_,x,h=>by cases h
  | t::l,N,x,h=>by
    rcases List.mem_cons.1 h with e | e
    · subst e;rfl
    · exact d5i l _ x e
theorem f8h {ll:List TW} {N:Nat}:∀n,(∀x∈ll.map (fun t:TW=>V.agg [V.int .i64 t.1,V.sl (t.2.map (V.int .i64))]),x.cells.length=n)→∀x∈(b3c (fun t:TW=>[V.int .i64 t.1]) (fun t:TW=>t.2) 1 N ll),x.cells.length=n:=by
  intro n h x hx
  cases ll with
  | nil=>cases hx
  | cons t l=>
    rw [d5i _ _ x hx,←h _ (List.mem_cons_self ..)];rfl
theorem f6y {ll:List TW} {N:Nat}:∀n,(∀x∈(b3c (fun t:TW=>[V.int .i64 t.1]) (fun t:TW=>t.2) 1 N ll),x.cells.length=n)→∀x∈ll.map (fun t:TW=>V.agg [V.int .i64 t.1,V.sl (t.2.map (V.int .i64))]),x.cells.length=n:=by
  intro n h x hx
  cases ll with
  | nil=>cases hx
  | cons t l=>
    have h1:=h _ (List.mem_cons_self ..)
    obtain ⟨u,_,rfl⟩:=List.mem_map.1 hx
    rw [←h1];rfl
theorem c5z (ll:List TW):(ll.map (fun t:TW=>V.agg [V.int .i64 t.1,V.sl (t.2.map (V.int .i64))])).flatMap V.cells=(ll.flatMap (b83 (fun t:TW=>[V.int .i64 t.1]) (fun t:TW=>t.2))).map (d03 (V.int .i64)):=c4z (pre:=(fun t:TW=>[V.int .i64 t.1])) (sl:=(fun t:TW=>t.2)) (f:=(V.int .i64)) ll
theorem c6b (ll:List TW) (N:Nat):(b3c (fun t:TW=>[V.int .i64 t.1]) (fun t:TW=>t.2) 1 N ll).flatMap V.cells=b9g N (ll.flatMap (b83 (fun t:TW=>[V.int .i64 t.1]) (fun t:TW=>t.2))):=c1d (pre:=(fun t:TW=>[V.int .i64 t.1])) (sl:=(fun t:TW=>t.2)) (n:=1) (fun _=>rfl) ll N
theorem d1i:∀t:TW,∀v∈(fun t:TW=>[V.int .i64 t.1]) t,v.only (fun _=>false)=true∧v.noSl=true∧v.cells=[v]:=by
  intro t v hv
  simp only [List.mem_cons,List.not_mem_nil,or_false] at hv
  rcases hv with rfl<;>exact ⟨rfl,rfl,rfl⟩
theorem f6g {cur:List TW} {i:Nat} {t u:TW} (h:i < cur.length) (hne:u.2.isEmpty=false):(b5g (V.int .i64) (((cur.set i t)).flatMap (b83 (fun t:TW=>[V.int .i64 t.1]) (fun t:TW=>t.2)))).set (1+2 * i) (.arr (u.2.map (V.int .i64)) .flat)=(b5g (V.int .i64) (((cur.set i u)).flatMap (b83 (fun t:TW=>[V.int .i64 t.1]) (fun t:TW=>t.2)))):=by
  have q:=c2z (pre:=(fun t:TW=>[V.int .i64 t.1])) (sl:=(fun t:TW=>t.2)) (f:=(V.int .i64)) (n:=1) (fun _=>rfl) (l:=cur.set i t) (i:=i) (t:=u) (by rw [List.length_set];exact h)
  rw [List.set_set] at q
  rw [show d53 (V.int .i64) ((fun t:TW=>t.2) u)=.arr (u.2.map (V.int .i64)) .flat by simp [d53,hne],show (1+1) * i+1=1+2 * i by omega] at q
  exact q
set_option maxRecDepth 8000 in
theorem d1f (ll:List TW) (kk:Int) (hl:ll.length≤1048576) (hls:∀t∈ll,t.2.length≤1048576) (hk:0≤kk∧kk≤10000000000000):Con Tryz.prog 78 [.ref 0,.int .i64 kk] [.arr (ll.map (fun t:TW=>V.agg [V.int .i64 t.1,V.sl (t.2.map (V.int .i64))])) (b1v ll.length)] (.int .i64 (kk+b3m ll)) [.arr ((b2d kk ll).map (fun t:TW=>V.agg [V.int .i64 t.1,V.sl (t.2.map (V.int .i64))])) (b1v ll.length)]:=by
 refine b05 [.tmp 4] [(100,[0])] Tryz.func78 rfl rfl rfl (by simp [Tryz.ntmps78]) ?_
 intro Q0 n0 r0
 simp only [Tryz.ntmps78,b0l,Nat.reduceAdd]
 have T:=Tys.mk (ai Ty.t3 (ai Ty.t34 (ai Ty.t75 Ty.t102)))
 have F:=Fc.mk True.intro
 refine yR [0,1] ⟨?_⟩;refine b0c ?_;intros;refine yR [0,1,5] ⟨?_⟩;refine b0g ?_;intros;refine b08 (fun p=>⟨[(0,.ref 0),(1,.int .i64 p.2.1),(5,.int .i64 (Nat.cast p.1))],[.arr (p.2.2.map (fun t:TW=>V.agg [V.int .i64 t.1,V.sl (t.2.map (V.int .i64))])) (b1v ll.length)],false,27,0⟩) (fun p=>p.1≤ll.length∧0≤p.2.1∧p.2.2.length=ll.length∧p.2.1+b3m (ll.drop p.1)=kk+b3m ll∧p.2.2.drop p.1=ll.drop p.1∧p.2.2.take p.1++b2d p.2.1 (ll.drop p.1)=b2d kk ll) (fun p=>ll.length - p.1) ((0,kk,ll):Nat×Int×List TW) ?_ ?_ ?_
 ·refine b0b [0,1,5] [0] ⟨?_⟩
  rfl
 ·exact ⟨Nat.zero_le _,hk.1,rfl,by simp,rfl,by simp⟩
 ·rintro ⟨i,m,cur⟩ hok5 Q5 n5 e5 r5
  obtain ⟨hi1,hm0,hL,hK,hD,hM⟩:=hok5
  simp only [] at hi1 hm0 hL hK hD hM⊢
  refine b0c ?_;intros;refine yR [0,1,5,9] ⟨?_⟩;refine b0d _ rfl ?_ ?_
  ·intro hc0
   have hclen:(cur.map (fun t:TW=>V.agg [V.int .i64 t.1,V.sl (t.2.map (V.int .i64))])).length=ll.length:=by rw [List.length_map,hL]
   have hlt:i < ll.length:=by omega
   have hkd:b1v ll.length=.deep:=by unfold b1v;rw [if_neg (by omega)]
   obtain ⟨⟨x0,x1⟩,hx⟩:∃x,ll[i]? =some x:=⟨_,List.getElem?_eq_getElem hlt⟩
   have hll:=hls _ (List.mem_of_getElem? hx)
   have htd:=c5c hx
   simp only [] at hll htd
   have hpos:=b49 (ll.drop (i+1))
   have htt:=b6h hls
   have hcx:cur[i]? =some (x0,x1):=by have h:=congrArg (fun z=>z[0]?) hD;simpa [List.getElem?_drop,hx] using h
   have hsm:(cur.map (fun t:TW=>V.agg [V.int .i64 t.1,V.sl (t.2.map (V.int .i64))])).set i (V.agg [V.int .i64 m,V.sl (x1.map (V.int .i64))])=(cur.set i (m,x1)).map (fun t:TW=>V.agg [V.int .i64 t.1,V.sl (t.2.map (V.int .i64))]):=by have q:=List.map_set (f:=(fun t:TW=>V.agg [V.int .i64 t.1,V.sl (t.2.map (V.int .i64))])) (l:=cur) (i:=i) (a:=(m,x1));exact q.symm
   have hc1:(cur.set i (m,x1))[i]? =some (m,x1):=List.getElem?_set_self (by omega)
   have hrow:=f7v hc1
   simp only [] at hrow
   have hoc:=b3f (pre:=(fun t:TW=>[V.int .i64 t.1])) (sl:=(fun t:TW=>t.2)) (n:=1) (cur.set i (m,x1)) 1
   have hcl1:(cur.set i (m,x1)).length=ll.length:=by rw [List.length_set,hL]
   have hSd:=Sd.mk (fun c=>d5i c 1)
   rcases Bool.eq_false_or_eq_true x1.isEmpty with he | he
   ·skip
    have hl0:x1=[]:=List.isEmpty_iff.1 he
    have hrv:c53 (1+2 * i+1) x1=.sl []:=by rw [hl0];rfl
    refine zn [0,1,5] ⟨?_⟩;refine b0c ?_;intro Q9 n9 e9 r9;refine b0g ?_;intro Q10 n10 x10 e10 r10
    have F:=Fc.mk (ai hkd (ai hclen (ai (gdm hcx) (ai hsm (ai hrow (ai hoc (ai hcl1 hrv)))))))
    refine yR [0,1,5] ⟨?_⟩;refine b0c ?_;intro Q12 n12 e12 r12;refine yV ⟨?_⟩
    apply n12
    ·apply b1i (b0f [0,1,5] _)
     simp only [b0s,b0k,b0h,b0i,b0n,Nat.reduceEqDiff,reduceIte]
     exact b68 (f:=(V.int .i64)) 0 ((cur.set i (m,x1)).map (fun t:TW=>V.agg [V.int .i64 t.1,V.sl (t.2.map (V.int .i64))])) (b3c (fun t:TW=>[V.int .i64 t.1]) (fun t:TW=>t.2) 1 1 (cur.set i (m,x1))) ((cur.set i (m,x1)).flatMap (b83 (fun t:TW=>[V.int .i64 t.1]) (fun t:TW=>t.2))) .deep rfl (c5z _) (c6b _ 1) (by simp [b3f]) f8h (b4g d1i _) (.inr rfl) rfl (fun _=>rfl)
    try simp only [b1r,b1y,Nat.reduceEqDiff,reduceIte,List.set_cons_zero,List.set_cons_succ]
    refine b4c ?_;intro K14 k14;refine f6m ⟨?_⟩;refine b5v ?_;intro K k
    simp only [zE,zM,b03,b0w,b0m,Nat.reduceEqDiff,reduceIte,Nat.reduceLT,implies_true,forall_const,reduceCtorEq,V.ofValue,V.ofScalar,V.un,V.gd,b1k,b3s,b4p,Tryz.underlying3,Ty.c3,Ty.a3,Ty.b3,Ty.s3,Tryz.underlying75,Ty.c75,Ty.a75,Ty.b75,Ty.s75]
    repeat (refine ai (by first | rfl | (intros;simp_all;done)) ?_)
    first | refine b4x _ (b8b x1 (m+1) hll (by omega)) (by first | rfl | (simp only [b1l,b15,b1g,b06,idx,b1j,List.getElem?_cons_zero,List.getElem?_cons_succ,Option.bind_some,Option.map_some,Blk.row,b0v,b09,b1d,b1b,b1c,b1e,cond_true,List.map_take];done) | (simp [b1l,b15,b1g,b06,idx,b1j,Blk.row,b0v,b09,b1d,b1b,b1c,b1e,Nat.beq_refl];done)) hO ⟨by simp [Blk.kindIs,b0v,b09],by simp⟩ (by first | exact .inl rfl | exact .inr (by simp [Blk.kindIs])) ⟨rfl,by simp [Blk.kindIs,b2g,b44]⟩ ?_ | refine b4a (b7y (m+1)) (by first | rfl | (simp only [b1l,b15,b1g,b06,idx,b1j,List.getElem?_cons_zero,List.getElem?_cons_succ,Option.bind_some,Option.map_some,Blk.row,b0v,b09,b1d,b1b,b1c,b1e,cond_true,List.map_take];done) | (simp [b1l,b15,b1g,b06,idx,b1j,Blk.row,b0v,b09,b1d,b1b,b1c,b1e,Nat.beq_refl];done)) (by first | exact .inl ⟨rfl,by simp [Blk.kindIs,b2g,b44]⟩ | exact .inr (by simp [V.cold])) ?_
    refine k _ ?_;clear k K
    simp only [zY,zW,b0m,Nat.reduceEqDiff,reduceIte,b7f,c8k,V.ren,V.renL,List.set_cons_zero,List.set_cons_succ,Nat.reduceAdd]
    refine b30 ⟨?_⟩;refine k14 _ ?_;refine n10 _ ?_
    apply n9
    ·apply b1i (b0f [0,1,5] _)
     simp only [b0s,b0k,b0h,b0i,b0n,Nat.reduceEqDiff,reduceIte]
     exact b6j (A:=[.arr (b3c (fun t:TW=>[V.int .i64 t.1]) (fun t:TW=>t.2) 1 1 (cur.set i (m,x1))) .mix]) 0 ((cur.set i (m,x1)).map (fun t:TW=>V.agg [V.int .i64 t.1,V.sl (t.2.map (V.int .i64))])) (b3c (fun t:TW=>[V.int .i64 t.1]) (fun t:TW=>t.2) 1 1 (cur.set i (m,x1))) ((cur.set i (m,x1)).flatMap (b83 (fun t:TW=>[V.int .i64 t.1]) (fun t:TW=>t.2))) rfl rfl (c5z _) (c6b _ 1) (by simp [b3f]) f6y (b4g d1i _)
    try simp only [b1r,b1y,Nat.reduceEqDiff,reduceIte,List.set_cons_zero,List.set_cons_succ]
    refine yV ⟨?_⟩;refine n5 _ (i+1,m+1,cur.set i (m,x1)) ?_ ?_ ?_
    ·refine b0b [0,1,5] [0] ⟨?_⟩
     first | (simp only [hkd];rfl) | trace_state
    ·exact ⟨hlt,by show 0≤m+1;omega,by show (cur.set i _).length=_;rw [List.length_set];exact hL,by subst hl0;show m+1+b3m (ll.drop (i+1))=_;rw [←hK,htd];(try simp);omega,by show (cur.set i _).drop (i+1)=_;rw [List.drop_set_of_lt (by omega)];have h:=congrArg (List.drop 1) hD;simpa [List.drop_drop,Nat.add_comm] using h,by subst hl0;show (cur.set i _).take (i+1)++b2d (m+1) _=_;rw [←hM,b0r hx,b2d,b6f (by omega)];simp [c44]⟩
    ·show _ < _;show ll.length - (i+1) < ll.length - i;omega
   ·skip
    have hrv:c53 (1+2 * i+1) x1=.ref (1+2 * i+1):=by rw [c53,he];rfl
    have hO:=f60 (b:=.arr (b3c (fun t:TW=>[V.int .i64 t.1]) (fun t:TW=>t.2) 1 1 (cur.set i (m,x1))) .mix) hc1 he
    refine zn [0,1,5] ⟨?_⟩;refine b0c ?_;intro Q16 n16 e16 r16;refine b0g ?_;intro Q17 n17 x17 e17 r17
    have F:=Fc.mk (ai hkd (ai hclen (ai (gdm hcx) (ai hsm (ai hrow (ai hoc (ai hcl1 hrv)))))))
    refine yR [0,1,5] ⟨?_⟩;refine b0c ?_;intro Q19 n19 e19 r19;refine yV ⟨?_⟩
    apply n19
    ·apply b1i (b0f [0,1,5] _)
     simp only [b0s,b0k,b0h,b0i,b0n,Nat.reduceEqDiff,reduceIte]
     exact b68 (f:=(V.int .i64)) 0 ((cur.set i (m,x1)).map (fun t:TW=>V.agg [V.int .i64 t.1,V.sl (t.2.map (V.int .i64))])) (b3c (fun t:TW=>[V.int .i64 t.1]) (fun t:TW=>t.2) 1 1 (cur.set i (m,x1))) ((cur.set i (m,x1)).flatMap (b83 (fun t:TW=>[V.int .i64 t.1]) (fun t:TW=>t.2))) .deep rfl (c5z _) (c6b _ 1) (by simp [b3f]) f8h (b4g d1i _) (.inr rfl) rfl (fun _=>rfl)
    try simp only [b1r,b1y,Nat.reduceEqDiff,reduceIte,List.set_cons_zero,List.set_cons_succ]
    refine b4c ?_;intro K21 k21;refine f6m ⟨?_⟩;refine b5v ?_;intro K k
    simp only [zE,zM,b03,b0w,b0m,Nat.reduceEqDiff,reduceIte,Nat.reduceLT,implies_true,forall_const,reduceCtorEq,V.ofValue,V.ofScalar,V.un,V.gd,b1k,b3s,b4p,Tryz.underlying3,Ty.c3,Ty.a3,Ty.b3,Ty.s3,Tryz.underlying75,Ty.c75,Ty.a75,Ty.b75,Ty.s75]
    repeat (refine ai (by first | rfl | (intros;simp_all;done)) ?_)
    first | refine b4x _ (b8b x1 (m+1) hll (by omega)) (by first | rfl | (simp only [b1l,b15,b1g,b06,idx,b1j,List.getElem?_cons_zero,List.getElem?_cons_succ,Option.bind_some,Option.map_some,Blk.row,b0v,b09,b1d,b1b,b1c,b1e,cond_true,List.map_take];done) | (simp [b1l,b15,b1g,b06,idx,b1j,Blk.row,b0v,b09,b1d,b1b,b1c,b1e,Nat.beq_refl];done)) hO ⟨by simp [Blk.kindIs,b0v,b09],by simp⟩ (by first | exact .inl rfl | exact .inr (by simp [Blk.kindIs])) ⟨rfl,by simp [Blk.kindIs,b2g,b44]⟩ ?_ | refine b4a (b7y (m+1)) (by first | rfl | (simp only [b1l,b15,b1g,b06,idx,b1j,List.getElem?_cons_zero,List.getElem?_cons_succ,Option.bind_some,Option.map_some,Blk.row,b0v,b09,b1d,b1b,b1c,b1e,cond_true,List.map_take];done) | (simp [b1l,b15,b1g,b06,idx,b1j,Blk.row,b0v,b09,b1d,b1b,b1c,b1e,Nat.beq_refl];done)) (by first | exact .inl ⟨rfl,by simp [Blk.kindIs,b2g,b44]⟩ | exact .inr (by simp [V.cold])) ?_
    refine k _ ?_;clear k K
    simp only [zY,zW,b0m,Nat.reduceEqDiff,reduceIte,b7f,c8k,V.ren,V.renL,List.set_cons_zero,List.set_cons_succ,Nat.reduceAdd]
    refine b30 ⟨?_⟩;refine k21 _ ?_;refine n17 _ ?_
    apply n16
    ·apply b1i (b0f [0,1,5] _)
     simp only [b0s,b0k,b0h,b0i,b0n,Nat.reduceEqDiff,reduceIte]
     have hmne:(b19 (m+1) x1.length).isEmpty=false:=by cases x1 with | nil=>cases he | cons x l=>simp [b19,b3t,b5f,List.range_succ]
     rw [f6g (t:=(m,x1)) (u:=(m,b19 (m+1) x1.length)) (by omega) hmne,f6z (cur:=cur) (i:=i) (t:=(m,x1)) (u:=(m,b19 (m+1) x1.length)) rfl (by rw [he,hmne])]
     exact b6j (A:=[.arr (b3c (fun t:TW=>[V.int .i64 t.1]) (fun t:TW=>t.2) 1 1 (cur.set i (m,b19 (m+1) x1.length))) .mix]) 0 ((cur.set i (m,b19 (m+1) x1.length)).map (fun t:TW=>V.agg [V.int .i64 t.1,V.sl (t.2.map (V.int .i64))])) (b3c (fun t:TW=>[V.int .i64 t.1]) (fun t:TW=>t.2) 1 1 (cur.set i (m,b19 (m+1) x1.length))) ((cur.set i (m,b19 (m+1) x1.length)).flatMap (b83 (fun t:TW=>[V.int .i64 t.1]) (fun t:TW=>t.2))) rfl rfl (c5z _) (c6b _ 1) (by simp [b3f]) f6y (b4g d1i _)
    try simp only [b1r,b1y,Nat.reduceEqDiff,reduceIte,List.set_cons_zero,List.set_cons_succ]
    refine yV ⟨?_⟩;refine n5 _ (i+1,m+1+x1.length,cur.set i (m,b19 (m+1) x1.length)) ?_ ?_ ?_
    ·refine b0b [0,1,5] [0] ⟨?_⟩
     first | (simp only [hkd];rfl) | trace_state
    ·exact ⟨hlt,by show 0≤m+1+(x1.length:Int);omega,by show (cur.set i _).length=_;rw [List.length_set];exact hL,by show m+1+(x1.length:Int)+b3m (ll.drop (i+1))=_;rw [←hK,htd];(try simp);omega,by show (cur.set i _).drop (i+1)=_;rw [List.drop_set_of_lt (by omega)];have h:=congrArg (List.drop 1) hD;simpa [List.drop_drop,Nat.add_comm] using h,by show (cur.set i _).take (i+1)++b2d (m+1+(x1.length:Int)) _=_;rw [←hM,b0r hx,b2d,b6f (by omega)]⟩
    ·show _ < _;show ll.length - (i+1) < ll.length - i;omega
  ·intro hc0
   refine zn [1] ⟨?_⟩;refine yR [4] ⟨?_⟩;refine zr ⟨?_⟩
   have hcur:cur=b2d kk ll:=by have h:=hM;rw [List.drop_of_length_le (by omega),b2d,List.append_nil,List.take_of_length_le (by omega)] at h;exact h
   have hmk:m=kk+b3m ll:=by rw [←hK,c60 (by omega)];omega
   rw [←hcur,←hmk]
   exact b4f rfl (by simp) rfl rfl (by simp [Blk.kindIs,b2g]) (.inl rfl)
set_option maxRecDepth 8000 in
theorem d1e (ll:List TW) (kk:Int) (hl:ll.length≤1048576) (hls:∀t∈ll,t.2.length≤1048576) (hk:0≤kk∧kk≤10000000000000):Con Tryz.prog 81 [.sl ((b2d kk ll).map (fun t:TW=>V.agg [V.int .i64 t.1,V.sl (t.2.map (V.int .i64))])),.int .i64 kk] [] (.int .i64 (kk+b3m ll)) []:=by
 refine b05 [.tmp 4] [] Tryz.func81 rfl rfl rfl (by simp [Tryz.ntmps81]) ?_
 intro Q0 n0 r0
 simp only [Tryz.ntmps81,b0l,Nat.reduceAdd]
 have T:=Tys.mk (ai Ty.t3 (ai Ty.t34 (ai Ty.t75 Ty.t102)))
 have F:=Fc.mk True.intro
 refine yR [0,1] ⟨?_⟩;refine b0c ?_;intros;refine yR [0,1,5] ⟨?_⟩;refine b0g ?_;intros;refine b08 (fun p=>⟨[(0,.sl ((b2d kk ll).map (fun t:TW=>V.agg [V.int .i64 t.1,V.sl (t.2.map (V.int .i64))]))),(1,.int .i64 p.2),(5,.int .i64 (Nat.cast p.1))],[],false,31,0⟩) (fun p=>p.1≤ll.length∧0≤p.2∧p.2+b3m (ll.drop p.1)=kk+b3m ll∧(b2d kk ll).drop p.1=b2d p.2 (ll.drop p.1)) (fun p=>ll.length - p.1) ((0,kk):Nat×Int) ?_ ?_ ?_
 ·refine b1a [0,1,5] ?_
  simp only [b0s,b0k,b0h,b0i,b0n,Nat.reduceEqDiff,reduceIte]
  rfl
 ·exact ⟨Nat.zero_le _,hk.1,rfl,rfl⟩
 ·rintro ⟨i,m⟩ hok5 Q5 n5 e5 r5
  obtain ⟨hi1,hm0,hK,hD⟩:=hok5
  simp only [] at hi1 hm0 hK hD⊢
  refine b0c ?_;intros;refine yR [0,1,5,9] ⟨?_⟩;refine b0d _ rfl ?_ ?_
  ·intro hc0
   rw [b6w] at hc0
   have hlt:i < ll.length:=by omega
   obtain ⟨⟨x0,x1⟩,hx⟩:∃x,ll[i]? =some x:=⟨_,List.getElem?_eq_getElem hlt⟩
   have hll:=hls _ (List.mem_of_getElem? hx)
   have htd:=c5c hx
   simp only [] at hll htd
   have hpos:=b49 (ll.drop (i+1))
   have htt:=b6h hls
   have hD2:=hD
   rw [b0r hx,b2d] at hD2
   simp only [] at hD2
   have hg:(b2d kk ll)[i]? =some (m,b19 (m+1) x1.length):=by have h:=congrArg (fun z=>z[0]?) hD2;simpa [List.getElem?_drop] using h
   refine zn [0,1,5] ⟨?_⟩;refine b0c ?_;intros;refine b0g ?_;intros;refine b0c ?_;intros
   have F:=Fc.mk (ai (gdm hg) @b6w)
   refine yR [0,1,5,18] ⟨?_⟩;refine b1z _ rfl ?_ ?_
   ·intro hc1
    exfalso;first | (simp at hc1;done) | (simp at hc1;omega)
   ·intro hc1
    try simp only [zC,reduceCtorEq] at hc1
    refine zn [0,1,5] ⟨?_⟩;refine yR [0,1,5] ⟨?_⟩;refine yRc [0,1,5] (d33 (m+1) x1.length hll (by omega)) ⟨?_⟩;refine yR [0,1,5,29] ⟨?_⟩;refine b1z _ rfl ?_ ?_
    ·intro hc2
     exfalso;first | (simp at hc2;done) | (simp at hc2;omega)
    ·intro hc2
     try simp only [zC,reduceCtorEq] at hc2
     refine zn [0,1,5] ⟨?_⟩;refine yV ⟨?_⟩;refine n5 _ (i+1,m+1+x1.length) ?_ ?_ ?_
     ·refine b1a [0,1,5] ?_
      simp only [b0s,b0k,b0h,b0i,b0n,Nat.reduceEqDiff,reduceIte]
      rfl
     ·exact ⟨hlt,by show 0≤m+1+(x1.length:Int);omega,by show m+1+(x1.length:Int)+b3m (ll.drop (i+1))=_;rw [←hK,htd];omega,by show (b2d kk ll).drop (i+1)=b2d (m+1+x1.length) _;have h:=congrArg (List.drop 1) hD2;simpa [List.drop_drop,Nat.add_comm] using h⟩
     ·show _ < _;show ll.length - (i+1) < ll.length - i;omega
  ·intro hc0
   rw [b6w] at hc0
   refine zn [1] ⟨?_⟩;refine yR [4] ⟨?_⟩;refine zr ⟨?_⟩
   exact b0a rfl (by rw [←hK,c60 (by omega)];congr 1;omega) (.inl rfl)
end Go.Proofs.YtaefoaghpehbpaaGreat
