/- What functions compute. No condition. -/
import Derived.Test.YtaefoaghpehbpaaGreatUz
import Derived.Test.YtaefoaghpehbpaaGreatUty
import Derived.Test.YtaefoaghpehbpaaGreatUmG
import Derived.Test.YtaefoaghpehbpaaGreatX3
import Derived.Test.YtaefoaghpehbpaaGreatX1
import Derived.Test.YtaefoaghpehbpaaGreatX12
import Derived.Test.YtaefoaghpehbpaaGreatX8
import Derived.Test.YtaefoaghpehbpaaGreatX13
set_option linter.unusedSimpArgs false
set_option linter.unusedVariables false
set_option linter.defProp false
namespace Go.Proofs.YtaefoaghpehbpaaGreat
open Go Go.Vm
set_option maxHeartbeats 8000000
theorem c5u (l:List (Int×Int×Int×Int×Int×Int×List Int)) (g:Nat) (caps:List V) (p:Int×Int×Int×Int×Int×Int×List Int→Bool) (hl:l.length≤1048576) (hc:Caps caps) (hg:∀x0 x1 x2 x3 x4 x5 x6,(x0,x1,x2,x3,x4,x5,x6)∈l→Con Tryz.prog g (V.agg [V.int .i64 x0,V.int .i64 x1,V.int .i64 x2,V.int .i64 x3,V.int .i64 x4,V.int .i64 x5,V.sl (x6.map (V.int .i64))]::caps) [] (.bool (p (x0,x1,x2,x3,x4,x5,x6))) []):Con Tryz.prog 219 [.sl (l.map (fun t:Int×Int×Int×Int×Int×Int×List Int=>V.agg [V.int .i64 t.1,V.int .i64 t.2.1,V.int .i64 t.2.2.1,V.int .i64 t.2.2.2.1,V.int .i64 t.2.2.2.2.1,V.int .i64 t.2.2.2.2.2.1,V.sl (t.2.2.2.2.2.2.map (V.int .i64))])),.fn g caps] [] (.int .i64 (b20 p 0 l)) []:=by
 refine b05 [.tmp 4] [] Tryz.func219 rfl rfl rfl (by simp [Tryz.ntmps219]) ?_
 intro Q0 n0 r0
 simp only [Tryz.ntmps219,b0l,Nat.reduceAdd]
 have T:=Tys.mk (ai Ty.t3 (ai Ty.t4 (ai Ty.t63 (ai Ty.t75 Ty.t138))))
 have F:=Fc.mk True.intro
 refine yR [0,1] ⟨?_⟩;refine b0c ?_;intros;refine yR [0,1,7,8] ⟨?_⟩;refine b0g ?_;intro Q4 n4 x4 e4 r4;refine b08 (fun i=>⟨[(0,.sl (l.map (fun t:Int×Int×Int×Int×Int×Int×List Int=>V.agg [V.int .i64 t.1,V.int .i64 t.2.1,V.int .i64 t.2.2.1,V.int .i64 t.2.2.2.1,V.int .i64 t.2.2.2.2.1,V.int .i64 t.2.2.2.2.2.1,V.sl (t.2.2.2.2.2.2.map (V.int .i64))]))),(1,.fn g caps),(7,.int .i64 l.length),(8,.int .i64 (Nat.cast i))],[],false,19,0⟩) (fun i=>i≤l.length∧b20 p i (l.drop i)=b20 p 0 l) (fun i=>l.length - i) 0 ?_ ?_ ?_
 ·refine b1a [0,1,7,8] ?_
  simp only [b0s,b0k,b0h,b0i,b0n,Nat.reduceEqDiff,reduceIte]
  rfl
 ·exact ⟨Nat.zero_le _,rfl⟩
 ·rintro i hok5 Q5 n5 e5 r5
  obtain ⟨hi1,hR⟩:=hok5
  refine yR [0,1,7,8,9] ⟨?_⟩;refine b0c ?_;intros;refine b0d _ rfl ?_ ?_
  ·intro hc0
   have hlt:i < l.length:=by omega
   obtain ⟨⟨x0,x1,x2,x3,x4,x5,x6⟩,hx⟩:∃x:Int×Int×Int×Int×Int×Int×List Int,l[i]? =some x:=⟨l[i]'(by omega),List.getElem?_eq_getElem (by omega)⟩
   have hst:=b54 (p:=p) hx
   refine zn [0,1,7,8] ⟨?_⟩;refine b0c ?_;intros;refine b0g ?_;intros
   have F:=Fc.mk (gdm hx)
   refine yR [0,1,5,7,8] ⟨?_⟩;refine b4y [0,1,5,7,8,16] ?_;intro K12 k12;refine zq5 ⟨?_⟩;refine b6n ⟨?_⟩;refine b6a ⟨?_⟩;refine d5j ⟨?_⟩;refine zcc (hg x0 x1 x2 x3 x4 x5 x6 (List.mem_of_getElem? hx)) ⟨?_⟩;refine k12 _ ?_;refine zk ⟨?_⟩;refine b0d _ rfl ?_ ?_
   ·intro hc1
    refine yR [4] ⟨?_⟩;refine zr ⟨?_⟩
    exact b0a rfl (by rw [←hR,hst,if_pos hc1]) (.inl rfl)
   ·intro hc1
    refine zn [0,1,7,8] ⟨?_⟩;refine yV ⟨?_⟩;refine n5 _ (i+1) ?_ ?_ ?_
    ·refine b5b [0,1,7,8] [] ⟨?_⟩
     rfl
    ·exact ⟨by omega,by rw [←hR,hst,if_neg (by simp [hc1])]⟩
    ·show _ < _;omega
  ·intro hc0
   refine zn [] ⟨?_⟩;refine yR [4] ⟨?_⟩;refine zr ⟨?_⟩
   exact b0a rfl (by rw [←hR,b7a (by omega)]) (.inl rfl)
def b5l:Int→List (Int×Int×Int×Int×Int×Int×List Int)→List (Int×Int×Int×Int×Int×Int×List Int)
  | _,[]=>[]
  | k,t::l=>(k,k+1,k+1+1,k+1+1+1,k+1+1+1+1,k+1+1+1+1+1,b19 (k+1+1+1+1+1+1) t.2.2.2.2.2.2.length)::b5l (k+1+1+1+1+1+1+t.2.2.2.2.2.2.length) l
def b5p:List (Int×Int×Int×Int×Int×Int×List Int)→Int
  | []=>0
  | t::l=>6+t.2.2.2.2.2.2.length+b5p l
theorem c4w:∀l:List (Int×Int×Int×Int×Int×Int×List Int),0≤b5p l
  | []=>Int.le_refl _
  | t::l=>by have:=c4w l;rw [b5p];omega
theorem c7r:∀{l:List (Int×Int×Int×Int×Int×Int×List Int)},(∀t∈l,t.2.2.2.2.2.2.length≤1048576)→b5p l≤1048590 * l.length
  | [],_=>Int.le_refl _
  | t::l,h=>by
    have h1:=c7r (l:=l) fun x hx=>h x (List.mem_cons_of_mem _ hx)
    have h2:=h t (List.mem_cons_self ..)
    rw [b5p,List.length_cons];omega
theorem d59 {l:List (Int×Int×Int×Int×Int×Int×List Int)} {i:Nat} {t:Int×Int×Int×Int×Int×Int×List Int} (h:l[i]? =some t):b5p (l.drop i)=6+t.2.2.2.2.2.2.length+b5p (l.drop (i+1)):=by
  rw [b0r h,b5p]
theorem d7s {l:List (Int×Int×Int×Int×Int×Int×List Int)} {i:Nat} (h:l.length≤i):b5p (l.drop i)=0:=by
  rw [List.drop_of_length_le h];rfl
theorem f6u {cur:List (Int×Int×Int×Int×Int×Int×List Int)} {i:Nat} {t:Int×Int×Int×Int×Int×Int×List Int} (h:cur[i]? =some t):(b3c (fun t:Int×Int×Int×Int×Int×Int×List Int=>[V.int .i64 t.1,V.int .i64 t.2.1,V.int .i64 t.2.2.1,V.int .i64 t.2.2.2.1,V.int .i64 t.2.2.2.2.1,V.int .i64 t.2.2.2.2.2.1]) (fun t:Int×Int×Int×Int×Int×Int×List Int=>t.2.2.2.2.2.2) 6 1 cur).getD i .any=V.agg [V.int .i64 t.1,V.int .i64 t.2.1,V.int .i64 t.2.2.1,V.int .i64 t.2.2.2.1,V.int .i64 t.2.2.2.2.1,V.int .i64 t.2.2.2.2.2.1,c53 (1+7 * i+6) t.2.2.2.2.2.2]:=by
  rw [List.getD_eq_getElem?_getD,c2u h];rfl
theorem f6i {cur:List (Int×Int×Int×Int×Int×Int×List Int)} {i:Nat} {t u:Int×Int×Int×Int×Int×Int×List Int} (h1:[V.int .i64 t.1,V.int .i64 t.2.1,V.int .i64 t.2.2.1,V.int .i64 t.2.2.2.1,V.int .i64 t.2.2.2.2.1,V.int .i64 t.2.2.2.2.2.1]=[V.int .i64 u.1,V.int .i64 u.2.1,V.int .i64 u.2.2.1,V.int .i64 u.2.2.2.1,V.int .i64 u.2.2.2.2.1,V.int .i64 u.2.2.2.2.2.1]) (h:t.2.2.2.2.2.2.isEmpty=u.2.2.2.2.2.2.isEmpty):(b3c (fun t:Int×Int×Int×Int×Int×Int×List Int=>[V.int .i64 t.1,V.int .i64 t.2.1,V.int .i64 t.2.2.1,V.int .i64 t.2.2.2.1,V.int .i64 t.2.2.2.2.1,V.int .i64 t.2.2.2.2.2.1]) (fun t:Int×Int×Int×Int×Int×Int×List Int=>t.2.2.2.2.2.2) 6 1 (cur.set i t))=(b3c (fun t:Int×Int×Int×Int×Int×Int×List Int=>[V.int .i64 t.1,V.int .i64 t.2.1,V.int .i64 t.2.2.1,V.int .i64 t.2.2.2.1,V.int .i64 t.2.2.2.2.1,V.int .i64 t.2.2.2.2.2.1]) (fun t:Int×Int×Int×Int×Int×Int×List Int=>t.2.2.2.2.2.2) 6 1 (cur.set i u)):=by
  rw [←b7s (pre:=(fun t:Int×Int×Int×Int×Int×Int×List Int=>[V.int .i64 t.1,V.int .i64 t.2.1,V.int .i64 t.2.2.1,V.int .i64 t.2.2.2.1,V.int .i64 t.2.2.2.2.1,V.int .i64 t.2.2.2.2.2.1])) (sl:=(fun t:Int×Int×Int×Int×Int×Int×List Int=>t.2.2.2.2.2.2)) (n:=6) (t:=t),←b7s (pre:=(fun t:Int×Int×Int×Int×Int×Int×List Int=>[V.int .i64 t.1,V.int .i64 t.2.1,V.int .i64 t.2.2.1,V.int .i64 t.2.2.2.1,V.int .i64 t.2.2.2.2.1,V.int .i64 t.2.2.2.2.2.1])) (sl:=(fun t:Int×Int×Int×Int×Int×Int×List Int=>t.2.2.2.2.2.2)) (n:=6) (t:=u),d0o,d0o,c53,c53,h1,h]
theorem f5s {b:Blk} {cur:List (Int×Int×Int×Int×Int×Int×List Int)} {i:Nat} {t:Int×Int×Int×Int×Int×Int×List Int} (h:cur[i]? =some t) (hne:t.2.2.2.2.2.2.isEmpty=false):(b::(b5g (V.int .i64) ((cur).flatMap (b83 (fun t:Int×Int×Int×Int×Int×Int×List Int=>[V.int .i64 t.1,V.int .i64 t.2.1,V.int .i64 t.2.2.1,V.int .i64 t.2.2.2.1,V.int .i64 t.2.2.2.2.1,V.int .i64 t.2.2.2.2.2.1]) (fun t:Int×Int×Int×Int×Int×Int×List Int=>t.2.2.2.2.2.2)))))[1+7 * i+6]? =some (.arr (t.2.2.2.2.2.2.map (V.int .i64)) .flat):=by
  rw [show 1+7 * i+6=(7 * i+6)+1 by omega,List.getElem?_cons_succ,c2q (pre:=(fun t:Int×Int×Int×Int×Int×Int×List Int=>[V.int .i64 t.1,V.int .i64 t.2.1,V.int .i64 t.2.2.1,V.int .i64 t.2.2.2.1,V.int .i64 t.2.2.2.2.1,V.int .i64 t.2.2.2.2.2.1])) (sl:=(fun t:Int×Int×Int×Int×Int×Int×List Int=>t.2.2.2.2.2.2)) (n:=6) (fun _=>rfl) h]
  simp [d53,hne]
theorem d0i:∀(l:List (Int×Int×Int×Int×Int×Int×List Int)) (N:Nat),∀x∈(b3c (fun t:Int×Int×Int×Int×Int×Int×List Int=>[V.int .i64 t.1,V.int .i64 t.2.1,V.int .i64 t.2.2.1,V.int .i64 t.2.2.2.1,V.int .i64 t.2.2.2.2.1,V.int .i64 t.2.2.2.2.2.1]) (fun t:Int×Int×Int×Int×Int×Int×List Int=>t.2.2.2.2.2.2) 6 N l),x.cells.length=7
  | [],_,x,h=>by cases h
  | t::l,N,x,h=>by
    rcases List.mem_cons.1 h with e | e
    · subst e;rfl
    · exact d0i l _ x e
theorem f63 {ll:List (Int×Int×Int×Int×Int×Int×List Int)} {N:Nat}:∀n,(∀x∈ll.map (fun t:Int×Int×Int×Int×Int×Int×List Int=>V.agg [V.int .i64 t.1,V.int .i64 t.2.1,V.int .i64 t.2.2.1,V.int .i64 t.2.2.2.1,V.int .i64 t.2.2.2.2.1,V.int .i64 t.2.2.2.2.2.1,V.sl (t.2.2.2.2.2.2.map (V.int .i64))]),x.cells.length=n)→∀x∈(b3c (fun t:Int×Int×Int×Int×Int×Int×List Int=>[V.int .i64 t.1,V.int .i64 t.2.1,V.int .i64 t.2.2.1,V.int .i64 t.2.2.2.1,V.int .i64 t.2.2.2.2.1,V.int .i64 t.2.2.2.2.2.1]) (fun t:Int×Int×Int×Int×Int×Int×List Int=>t.2.2.2.2.2.2) 6 N ll),x.cells.length=n:=by
  intro n h x hx
  cases ll with
  | nil=>cases hx
  | cons t l=>
    rw [d0i _ _ x hx,←h _ (List.mem_cons_self ..)];rfl
theorem f48 {ll:List (Int×Int×Int×Int×Int×Int×List Int)} {N:Nat}:∀n,(∀x∈(b3c (fun t:Int×Int×Int×Int×Int×Int×List Int=>[V.int .i64 t.1,V.int .i64 t.2.1,V.int .i64 t.2.2.1,V.int .i64 t.2.2.2.1,V.int .i64 t.2.2.2.2.1,V.int .i64 t.2.2.2.2.2.1]) (fun t:Int×Int×Int×Int×Int×Int×List Int=>t.2.2.2.2.2.2) 6 N ll),x.cells.length=n)→∀x∈ll.map (fun t:Int×Int×Int×Int×Int×Int×List Int=>V.agg [V.int .i64 t.1,V.int .i64 t.2.1,V.int .i64 t.2.2.1,V.int .i64 t.2.2.2.1,V.int .i64 t.2.2.2.2.1,V.int .i64 t.2.2.2.2.2.1,V.sl (t.2.2.2.2.2.2.map (V.int .i64))]),x.cells.length=n:=by
  intro n h x hx
  cases ll with
  | nil=>cases hx
  | cons t l=>
    have h1:=h _ (List.mem_cons_self ..)
    obtain ⟨u,_,rfl⟩:=List.mem_map.1 hx
    rw [←h1];rfl
theorem c2k (ll:List (Int×Int×Int×Int×Int×Int×List Int)):(ll.map (fun t:Int×Int×Int×Int×Int×Int×List Int=>V.agg [V.int .i64 t.1,V.int .i64 t.2.1,V.int .i64 t.2.2.1,V.int .i64 t.2.2.2.1,V.int .i64 t.2.2.2.2.1,V.int .i64 t.2.2.2.2.2.1,V.sl (t.2.2.2.2.2.2.map (V.int .i64))])).flatMap V.cells=(ll.flatMap (b83 (fun t:Int×Int×Int×Int×Int×Int×List Int=>[V.int .i64 t.1,V.int .i64 t.2.1,V.int .i64 t.2.2.1,V.int .i64 t.2.2.2.1,V.int .i64 t.2.2.2.2.1,V.int .i64 t.2.2.2.2.2.1]) (fun t:Int×Int×Int×Int×Int×Int×List Int=>t.2.2.2.2.2.2))).map (d03 (V.int .i64)):=c4z (pre:=(fun t:Int×Int×Int×Int×Int×Int×List Int=>[V.int .i64 t.1,V.int .i64 t.2.1,V.int .i64 t.2.2.1,V.int .i64 t.2.2.2.1,V.int .i64 t.2.2.2.2.1,V.int .i64 t.2.2.2.2.2.1])) (sl:=(fun t:Int×Int×Int×Int×Int×Int×List Int=>t.2.2.2.2.2.2)) (f:=(V.int .i64)) ll
theorem c2i (ll:List (Int×Int×Int×Int×Int×Int×List Int)) (N:Nat):(b3c (fun t:Int×Int×Int×Int×Int×Int×List Int=>[V.int .i64 t.1,V.int .i64 t.2.1,V.int .i64 t.2.2.1,V.int .i64 t.2.2.2.1,V.int .i64 t.2.2.2.2.1,V.int .i64 t.2.2.2.2.2.1]) (fun t:Int×Int×Int×Int×Int×Int×List Int=>t.2.2.2.2.2.2) 6 N ll).flatMap V.cells=b9g N (ll.flatMap (b83 (fun t:Int×Int×Int×Int×Int×Int×List Int=>[V.int .i64 t.1,V.int .i64 t.2.1,V.int .i64 t.2.2.1,V.int .i64 t.2.2.2.1,V.int .i64 t.2.2.2.2.1,V.int .i64 t.2.2.2.2.2.1]) (fun t:Int×Int×Int×Int×Int×Int×List Int=>t.2.2.2.2.2.2))):=c1d (pre:=(fun t:Int×Int×Int×Int×Int×Int×List Int=>[V.int .i64 t.1,V.int .i64 t.2.1,V.int .i64 t.2.2.1,V.int .i64 t.2.2.2.1,V.int .i64 t.2.2.2.2.1,V.int .i64 t.2.2.2.2.2.1])) (sl:=(fun t:Int×Int×Int×Int×Int×Int×List Int=>t.2.2.2.2.2.2)) (n:=6) (fun _=>rfl) ll N
theorem c6c:∀t:Int×Int×Int×Int×Int×Int×List Int,∀v∈(fun t:Int×Int×Int×Int×Int×Int×List Int=>[V.int .i64 t.1,V.int .i64 t.2.1,V.int .i64 t.2.2.1,V.int .i64 t.2.2.2.1,V.int .i64 t.2.2.2.2.1,V.int .i64 t.2.2.2.2.2.1]) t,v.only (fun _=>false)=true∧v.noSl=true∧v.cells=[v]:=by
  intro t v hv
  simp only [List.mem_cons,List.not_mem_nil,or_false] at hv
  rcases hv with rfl | rfl | rfl | rfl | rfl | rfl<;>exact ⟨rfl,rfl,rfl⟩
theorem f29 {cur:List (Int×Int×Int×Int×Int×Int×List Int)} {i:Nat} {t u:Int×Int×Int×Int×Int×Int×List Int} (h:i < cur.length) (hne:u.2.2.2.2.2.2.isEmpty=false):(b5g (V.int .i64) (((cur.set i t)).flatMap (b83 (fun t:Int×Int×Int×Int×Int×Int×List Int=>[V.int .i64 t.1,V.int .i64 t.2.1,V.int .i64 t.2.2.1,V.int .i64 t.2.2.2.1,V.int .i64 t.2.2.2.2.1,V.int .i64 t.2.2.2.2.2.1]) (fun t:Int×Int×Int×Int×Int×Int×List Int=>t.2.2.2.2.2.2)))).set (1+7 * i+5) (.arr (u.2.2.2.2.2.2.map (V.int .i64)) .flat)=(b5g (V.int .i64) (((cur.set i u)).flatMap (b83 (fun t:Int×Int×Int×Int×Int×Int×List Int=>[V.int .i64 t.1,V.int .i64 t.2.1,V.int .i64 t.2.2.1,V.int .i64 t.2.2.2.1,V.int .i64 t.2.2.2.2.1,V.int .i64 t.2.2.2.2.2.1]) (fun t:Int×Int×Int×Int×Int×Int×List Int=>t.2.2.2.2.2.2)))):=by
  have q:=c2z (pre:=(fun t:Int×Int×Int×Int×Int×Int×List Int=>[V.int .i64 t.1,V.int .i64 t.2.1,V.int .i64 t.2.2.1,V.int .i64 t.2.2.2.1,V.int .i64 t.2.2.2.2.1,V.int .i64 t.2.2.2.2.2.1])) (sl:=(fun t:Int×Int×Int×Int×Int×Int×List Int=>t.2.2.2.2.2.2)) (f:=(V.int .i64)) (n:=6) (fun _=>rfl) (l:=cur.set i t) (i:=i) (t:=u) (by rw [List.length_set];exact h)
  rw [List.set_set] at q
  rw [show d53 (V.int .i64) ((fun t:Int×Int×Int×Int×Int×Int×List Int=>t.2.2.2.2.2.2) u)=.arr (u.2.2.2.2.2.2.map (V.int .i64)) .flat by simp [d53,hne],show (6+1) * i+6=1+7 * i+5 by omega] at q
  exact q
set_option maxRecDepth 8000 in
theorem d26 (ll:List (Int×Int×Int×Int×Int×Int×List Int)) (kk:Int) (hl:ll.length≤1048576) (hls:∀t∈ll,t.2.2.2.2.2.2.length≤1048576) (hk:0≤kk∧kk≤10000000000000):Con Tryz.prog 32 [.ref 0,.int .i64 kk] [.arr (ll.map (fun t:Int×Int×Int×Int×Int×Int×List Int=>V.agg [V.int .i64 t.1,V.int .i64 t.2.1,V.int .i64 t.2.2.1,V.int .i64 t.2.2.2.1,V.int .i64 t.2.2.2.2.1,V.int .i64 t.2.2.2.2.2.1,V.sl (t.2.2.2.2.2.2.map (V.int .i64))])) (b1v ll.length)] (.int .i64 (kk+b5p ll)) [.arr ((b5l kk ll).map (fun t:Int×Int×Int×Int×Int×Int×List Int=>V.agg [V.int .i64 t.1,V.int .i64 t.2.1,V.int .i64 t.2.2.1,V.int .i64 t.2.2.2.1,V.int .i64 t.2.2.2.2.1,V.int .i64 t.2.2.2.2.2.1,V.sl (t.2.2.2.2.2.2.map (V.int .i64))])) (b1v ll.length)]:=by
 refine b05 [.tmp 4] [(100,[0])] Tryz.func32 rfl rfl rfl (by simp [Tryz.ntmps32]) ?_
 intro Q0 n0 r0
 simp only [Tryz.ntmps32,b0l,Nat.reduceAdd]
 have T:=Tys.mk (ai Ty.t3 (ai Ty.t63 (ai Ty.t75 Ty.t138)))
 have F:=Fc.mk True.intro
 refine yR [0,1] ⟨?_⟩;refine b0c ?_;intros;refine yR [0,1,5] ⟨?_⟩;refine b0g ?_;intro Q4 n4 x4 e4 r4;refine b08 (fun p=>⟨[(0,.ref 0),(1,.int .i64 p.2.1),(5,.int .i64 (Nat.cast p.1))],[.arr (p.2.2.map (fun t:Int×Int×Int×Int×Int×Int×List Int=>V.agg [V.int .i64 t.1,V.int .i64 t.2.1,V.int .i64 t.2.2.1,V.int .i64 t.2.2.2.1,V.int .i64 t.2.2.2.2.1,V.int .i64 t.2.2.2.2.2.1,V.sl (t.2.2.2.2.2.2.map (V.int .i64))])) (b1v ll.length)],false,62,0⟩) (fun p=>p.1≤ll.length∧0≤p.2.1∧p.2.2.length=ll.length∧p.2.1+b5p (ll.drop p.1)=kk+b5p ll∧p.2.2.drop p.1=ll.drop p.1∧p.2.2.take p.1++b5l p.2.1 (ll.drop p.1)=b5l kk ll) (fun p=>ll.length - p.1) ((0,kk,ll):Nat×Int×List (Int×Int×Int×Int×Int×Int×List Int)) ?_ ?_ ?_
 ·refine b0b [0,1,5] [0] ⟨?_⟩
  rfl
 ·exact ⟨Nat.zero_le _,hk.1,rfl,by simp,rfl,by simp⟩
 ·rintro ⟨i,m,cur⟩ hok5 Q5 n5 e5 r5
  obtain ⟨hi1,hm0,hL,hK,hD,hM⟩:=hok5
  simp only [] at hi1 hm0 hL hK hD hM⊢
  refine b0c ?_;intros;refine yR [0,1,5,9] ⟨?_⟩;refine b0d _ rfl ?_ ?_
  ·intro hc0
   have hclen:(cur.map (fun t:Int×Int×Int×Int×Int×Int×List Int=>V.agg [V.int .i64 t.1,V.int .i64 t.2.1,V.int .i64 t.2.2.1,V.int .i64 t.2.2.2.1,V.int .i64 t.2.2.2.2.1,V.int .i64 t.2.2.2.2.2.1,V.sl (t.2.2.2.2.2.2.map (V.int .i64))])).length=ll.length:=by rw [List.length_map,hL]
   have hlt:i < ll.length:=by omega
   have hkd:b1v ll.length=.deep:=by unfold b1v;rw [if_neg (by omega)]
   obtain ⟨⟨x0,x1,x2,x3,x4,x5,x6⟩,hx⟩:∃x,ll[i]? =some x:=⟨_,List.getElem?_eq_getElem hlt⟩
   have hll:=hls _ (List.mem_of_getElem? hx)
   have htd:=d59 hx
   simp only [] at hll htd
   have hpos:=c4w (ll.drop (i+1))
   have htt:=c7r hls
   have hcx:cur[i]? =some (x0,x1,x2,x3,x4,x5,x6):=by have h:=congrArg (fun z=>z[0]?) hD;simpa [List.getElem?_drop,hx] using h
   have hsm:(cur.map (fun t:Int×Int×Int×Int×Int×Int×List Int=>V.agg [V.int .i64 t.1,V.int .i64 t.2.1,V.int .i64 t.2.2.1,V.int .i64 t.2.2.2.1,V.int .i64 t.2.2.2.2.1,V.int .i64 t.2.2.2.2.2.1,V.sl (t.2.2.2.2.2.2.map (V.int .i64))])).set i (V.agg [V.int .i64 m,V.int .i64 (m+1),V.int .i64 (m+1+1),V.int .i64 (m+1+1+1),V.int .i64 (m+1+1+1+1),V.int .i64 (m+1+1+1+1+1),V.sl (x6.map (V.int .i64))])=(cur.set i (m,m+1,m+1+1,m+1+1+1,m+1+1+1+1,m+1+1+1+1+1,x6)).map (fun t:Int×Int×Int×Int×Int×Int×List Int=>V.agg [V.int .i64 t.1,V.int .i64 t.2.1,V.int .i64 t.2.2.1,V.int .i64 t.2.2.2.1,V.int .i64 t.2.2.2.2.1,V.int .i64 t.2.2.2.2.2.1,V.sl (t.2.2.2.2.2.2.map (V.int .i64))]):=by have q:=List.map_set (f:=(fun t:Int×Int×Int×Int×Int×Int×List Int=>V.agg [V.int .i64 t.1,V.int .i64 t.2.1,V.int .i64 t.2.2.1,V.int .i64 t.2.2.2.1,V.int .i64 t.2.2.2.2.1,V.int .i64 t.2.2.2.2.2.1,V.sl (t.2.2.2.2.2.2.map (V.int .i64))])) (l:=cur) (i:=i) (a:=(m,m+1,m+1+1,m+1+1+1,m+1+1+1+1,m+1+1+1+1+1,x6));exact q.symm
   have hc1:(cur.set i (m,m+1,m+1+1,m+1+1+1,m+1+1+1+1,m+1+1+1+1+1,x6))[i]? =some (m,m+1,m+1+1,m+1+1+1,m+1+1+1+1,m+1+1+1+1+1,x6):=List.getElem?_set_self (by omega)
   have hrow:=f6u hc1
   simp only [] at hrow
   have hoc:=b3f (pre:=(fun t:Int×Int×Int×Int×Int×Int×List Int=>[V.int .i64 t.1,V.int .i64 t.2.1,V.int .i64 t.2.2.1,V.int .i64 t.2.2.2.1,V.int .i64 t.2.2.2.2.1,V.int .i64 t.2.2.2.2.2.1])) (sl:=(fun t:Int×Int×Int×Int×Int×Int×List Int=>t.2.2.2.2.2.2)) (n:=6) (cur.set i (m,m+1,m+1+1,m+1+1+1,m+1+1+1+1,m+1+1+1+1+1,x6)) 1
   have hcl1:(cur.set i (m,m+1,m+1+1,m+1+1+1,m+1+1+1+1,m+1+1+1+1+1,x6)).length=ll.length:=by rw [List.length_set,hL]
   have hSd:=Sd.mk (fun c=>d0i c 1)
   rcases Bool.eq_false_or_eq_true x6.isEmpty with he | he
   ·skip
    have hl0:x6=[]:=List.isEmpty_iff.1 he
    have hrv:c53 (1+7 * i+6) x6=.sl []:=by rw [hl0];rfl
    refine zn [0,1,5] ⟨?_⟩;refine b0c ?_;intro Q9 n9 e9 r9;refine b0g ?_;intro Q10 n10 x10 e10 r10
    have F:=Fc.mk (ai hkd (ai hclen (ai (gdm hcx) (ai hsm (ai hrow (ai hoc (ai hcl1 (ai @b76 (ai hlt (ai @List.length_set.{0} (ai @List.set_set.{0} hrv)))))))))))
    refine yR [0,1,5] ⟨?_⟩;refine yR [0,1,5] ⟨?_⟩;refine yR [0,1,5] ⟨?_⟩;refine yR [0,1,5] ⟨?_⟩;refine yR [0,1,5] ⟨?_⟩;refine yR [0,1,5] ⟨?_⟩;refine yR [0,1,5] ⟨?_⟩;refine yR [0,1,5] ⟨?_⟩;refine yR [0,1,5] ⟨?_⟩;refine yR [0,1,5] ⟨?_⟩;refine yR [0,1,5] ⟨?_⟩;refine b0c ?_;intro Q22 n22 e22 r22;refine yV ⟨?_⟩
    apply n22
    ·apply b1i (b0f [0,1,5] _)
     simp only [b0s,b0k,b0h,b0i,b0n,Nat.reduceEqDiff,reduceIte]
     exact b68 (f:=(V.int .i64)) 0 ((cur.set i (m,m+1,m+1+1,m+1+1+1,m+1+1+1+1,m+1+1+1+1+1,x6)).map (fun t:Int×Int×Int×Int×Int×Int×List Int=>V.agg [V.int .i64 t.1,V.int .i64 t.2.1,V.int .i64 t.2.2.1,V.int .i64 t.2.2.2.1,V.int .i64 t.2.2.2.2.1,V.int .i64 t.2.2.2.2.2.1,V.sl (t.2.2.2.2.2.2.map (V.int .i64))])) (b3c (fun t:Int×Int×Int×Int×Int×Int×List Int=>[V.int .i64 t.1,V.int .i64 t.2.1,V.int .i64 t.2.2.1,V.int .i64 t.2.2.2.1,V.int .i64 t.2.2.2.2.1,V.int .i64 t.2.2.2.2.2.1]) (fun t:Int×Int×Int×Int×Int×Int×List Int=>t.2.2.2.2.2.2) 6 1 (cur.set i (m,m+1,m+1+1,m+1+1+1,m+1+1+1+1,m+1+1+1+1+1,x6))) ((cur.set i (m,m+1,m+1+1,m+1+1+1,m+1+1+1+1,m+1+1+1+1+1,x6)).flatMap (b83 (fun t:Int×Int×Int×Int×Int×Int×List Int=>[V.int .i64 t.1,V.int .i64 t.2.1,V.int .i64 t.2.2.1,V.int .i64 t.2.2.2.1,V.int .i64 t.2.2.2.2.1,V.int .i64 t.2.2.2.2.2.1]) (fun t:Int×Int×Int×Int×Int×Int×List Int=>t.2.2.2.2.2.2))) .deep rfl (c2k _) (c2i _ 1) (by simp [b3f]) f63 (b4g c6c _) (.inr rfl) rfl (fun _=>rfl)
    try simp only [b1r,b1y,Nat.reduceEqDiff,reduceIte,List.set_cons_zero,List.set_cons_succ]
    refine b4c ?_;intro K24 k24;refine f6m ⟨?_⟩;refine b5v ?_;intro K k
    simp only [zE,zM,b03,b0w,b0m,Nat.reduceEqDiff,reduceIte,Nat.reduceLT,implies_true,forall_const,reduceCtorEq,V.ofValue,V.ofScalar,V.un,V.gd,b1k,b3s,b4p,Tryz.underlying3,Ty.c3,Ty.a3,Ty.b3,Ty.s3,Tryz.underlying75,Ty.c75,Ty.a75,Ty.b75,Ty.s75]
    repeat (refine ai (by first | rfl | (intros;simp_all;done)) ?_)
    first | refine b4x _ (b8b x6 (m+1+1+1+1+1+1) hll (by omega)) (by first | rfl | (simp only [b1l,b15,b1g,b06,idx,b1j,List.getElem?_cons_zero,List.getElem?_cons_succ,Option.bind_some,Option.map_some,Blk.row,b0v,b09,b1d,b1b,b1c,b1e,cond_true,List.map_take];done) | (simp [b1l,b15,b1g,b06,idx,b1j,Blk.row,b0v,b09,b1d,b1b,b1c,b1e,Nat.beq_refl];done)) hO ⟨by simp [Blk.kindIs,b0v,b09],by simp⟩ (by first | exact .inl rfl | exact .inr (by simp [Blk.kindIs])) ⟨rfl,by simp [Blk.kindIs,b2g,b44]⟩ ?_ | refine b4a (b7y (m+1+1+1+1+1+1)) (by first | rfl | (simp only [b1l,b15,b1g,b06,idx,b1j,List.getElem?_cons_zero,List.getElem?_cons_succ,Option.bind_some,Option.map_some,Blk.row,b0v,b09,b1d,b1b,b1c,b1e,cond_true,List.map_take];done) | (simp [b1l,b15,b1g,b06,idx,b1j,Blk.row,b0v,b09,b1d,b1b,b1c,b1e,Nat.beq_refl];done)) (by first | exact .inl ⟨rfl,by simp [Blk.kindIs,b2g,b44]⟩ | exact .inr (by simp [V.cold])) ?_
    refine k _ ?_;clear k K
    simp only [zY,zW,b0m,Nat.reduceEqDiff,reduceIte,b7f,c8k,V.ren,V.renL,List.set_cons_zero,List.set_cons_succ,Nat.reduceAdd]
    refine b30 ⟨?_⟩;refine k24 _ ?_;refine n10 _ ?_
    apply n9
    ·apply b1i (b0f [0,1,5] _)
     simp only [b0s,b0k,b0h,b0i,b0n,Nat.reduceEqDiff,reduceIte]
     exact b6j (A:=[.arr (b3c (fun t:Int×Int×Int×Int×Int×Int×List Int=>[V.int .i64 t.1,V.int .i64 t.2.1,V.int .i64 t.2.2.1,V.int .i64 t.2.2.2.1,V.int .i64 t.2.2.2.2.1,V.int .i64 t.2.2.2.2.2.1]) (fun t:Int×Int×Int×Int×Int×Int×List Int=>t.2.2.2.2.2.2) 6 1 (cur.set i (m,m+1,m+1+1,m+1+1+1,m+1+1+1+1,m+1+1+1+1+1,x6))) .mix]) 0 ((cur.set i (m,m+1,m+1+1,m+1+1+1,m+1+1+1+1,m+1+1+1+1+1,x6)).map (fun t:Int×Int×Int×Int×Int×Int×List Int=>V.agg [V.int .i64 t.1,V.int .i64 t.2.1,V.int .i64 t.2.2.1,V.int .i64 t.2.2.2.1,V.int .i64 t.2.2.2.2.1,V.int .i64 t.2.2.2.2.2.1,V.sl (t.2.2.2.2.2.2.map (V.int .i64))])) (b3c (fun t:Int×Int×Int×Int×Int×Int×List Int=>[V.int .i64 t.1,V.int .i64 t.2.1,V.int .i64 t.2.2.1,V.int .i64 t.2.2.2.1,V.int .i64 t.2.2.2.2.1,V.int .i64 t.2.2.2.2.2.1]) (fun t:Int×Int×Int×Int×Int×Int×List Int=>t.2.2.2.2.2.2) 6 1 (cur.set i (m,m+1,m+1+1,m+1+1+1,m+1+1+1+1,m+1+1+1+1+1,x6))) ((cur.set i (m,m+1,m+1+1,m+1+1+1,m+1+1+1+1,m+1+1+1+1+1,x6)).flatMap (b83 (fun t:Int×Int×Int×Int×Int×Int×List Int=>[V.int .i64 t.1,V.int .i64 t.2.1,V.int .i64 t.2.2.1,V.int .i64 t.2.2.2.1,V.int .i64 t.2.2.2.2.1,V.int .i64 t.2.2.2.2.2.1]) (fun t:Int×Int×Int×Int×Int×Int×List Int=>t.2.2.2.2.2.2))) rfl rfl (c2k _) (c2i _ 1) (by simp [b3f]) f48 (b4g c6c _)
    try simp only [b1r,b1y,Nat.reduceEqDiff,reduceIte,List.set_cons_zero,List.set_cons_succ]
    refine yV ⟨?_⟩;refine n5 _ (i+1,m+1+1+1+1+1+1,cur.set i (m,m+1,m+1+1,m+1+1+1,m+1+1+1+1,m+1+1+1+1+1,x6)) ?_ ?_ ?_
    ·refine b0b [0,1,5] [0] ⟨?_⟩
     first | (simp only [hkd];rfl) | trace_state
    ·exact ⟨hlt,by show 0≤m+1+1+1+1+1+1;omega,by show (cur.set i _).length=_;rw [List.length_set];exact hL,by subst hl0;show m+1+1+1+1+1+1+b5p (ll.drop (i+1))=_;rw [←hK,htd];(try simp);omega,by show (cur.set i _).drop (i+1)=_;rw [List.drop_set_of_lt (by omega)];have h:=congrArg (List.drop 1) hD;simpa [List.drop_drop,Nat.add_comm] using h,by subst hl0;show (cur.set i _).take (i+1)++b5l (m+1+1+1+1+1+1) _=_;rw [←hM,b0r hx,b5l,b6f (by omega)];simp [c44]⟩
    ·show _ < _;show ll.length - (i+1) < ll.length - i;omega
   ·skip
    have hrv:c53 (1+7 * i+6) x6=.ref (1+7 * i+6):=by rw [c53,he];rfl
    have hO:=f5s (b:=.arr (b3c (fun t:Int×Int×Int×Int×Int×Int×List Int=>[V.int .i64 t.1,V.int .i64 t.2.1,V.int .i64 t.2.2.1,V.int .i64 t.2.2.2.1,V.int .i64 t.2.2.2.2.1,V.int .i64 t.2.2.2.2.2.1]) (fun t:Int×Int×Int×Int×Int×Int×List Int=>t.2.2.2.2.2.2) 6 1 (cur.set i (m,m+1,m+1+1,m+1+1+1,m+1+1+1+1,m+1+1+1+1+1,x6))) .mix) hc1 he
    refine zn [0,1,5] ⟨?_⟩;refine b0c ?_;intro Q26 n26 e26 r26;refine b0g ?_;intro Q27 n27 x27 e27 r27
    have F:=Fc.mk (ai hkd (ai hclen (ai (gdm hcx) (ai hsm (ai hrow (ai hoc (ai hcl1 (ai @b76 (ai hlt (ai @List.length_set.{0} (ai @List.set_set.{0} hrv)))))))))))
    refine yR [0,1,5] ⟨?_⟩;refine yR [0,1,5] ⟨?_⟩;refine yR [0,1,5] ⟨?_⟩;refine yR [0,1,5] ⟨?_⟩;refine yR [0,1,5] ⟨?_⟩;refine yR [0,1,5] ⟨?_⟩;refine yR [0,1,5] ⟨?_⟩;refine yR [0,1,5] ⟨?_⟩;refine yR [0,1,5] ⟨?_⟩;refine yR [0,1,5] ⟨?_⟩;refine yR [0,1,5] ⟨?_⟩;refine b0c ?_;intro Q39 n39 e39 r39;refine yV ⟨?_⟩
    apply n39
    ·apply b1i (b0f [0,1,5] _)
     simp only [b0s,b0k,b0h,b0i,b0n,Nat.reduceEqDiff,reduceIte]
     exact b68 (f:=(V.int .i64)) 0 ((cur.set i (m,m+1,m+1+1,m+1+1+1,m+1+1+1+1,m+1+1+1+1+1,x6)).map (fun t:Int×Int×Int×Int×Int×Int×List Int=>V.agg [V.int .i64 t.1,V.int .i64 t.2.1,V.int .i64 t.2.2.1,V.int .i64 t.2.2.2.1,V.int .i64 t.2.2.2.2.1,V.int .i64 t.2.2.2.2.2.1,V.sl (t.2.2.2.2.2.2.map (V.int .i64))])) (b3c (fun t:Int×Int×Int×Int×Int×Int×List Int=>[V.int .i64 t.1,V.int .i64 t.2.1,V.int .i64 t.2.2.1,V.int .i64 t.2.2.2.1,V.int .i64 t.2.2.2.2.1,V.int .i64 t.2.2.2.2.2.1]) (fun t:Int×Int×Int×Int×Int×Int×List Int=>t.2.2.2.2.2.2) 6 1 (cur.set i (m,m+1,m+1+1,m+1+1+1,m+1+1+1+1,m+1+1+1+1+1,x6))) ((cur.set i (m,m+1,m+1+1,m+1+1+1,m+1+1+1+1,m+1+1+1+1+1,x6)).flatMap (b83 (fun t:Int×Int×Int×Int×Int×Int×List Int=>[V.int .i64 t.1,V.int .i64 t.2.1,V.int .i64 t.2.2.1,V.int .i64 t.2.2.2.1,V.int .i64 t.2.2.2.2.1,V.int .i64 t.2.2.2.2.2.1]) (fun t:Int×Int×Int×Int×Int×Int×List Int=>t.2.2.2.2.2.2))) .deep rfl (c2k _) (c2i _ 1) (by simp [b3f]) f63 (b4g c6c _) (.inr rfl) rfl (fun _=>rfl)
    try simp only [b1r,b1y,Nat.reduceEqDiff,reduceIte,List.set_cons_zero,List.set_cons_succ]
    refine b4c ?_;intro K41 k41;refine f6m ⟨?_⟩;refine b5v ?_;intro K k
    simp only [zE,zM,b03,b0w,b0m,Nat.reduceEqDiff,reduceIte,Nat.reduceLT,implies_true,forall_const,reduceCtorEq,V.ofValue,V.ofScalar,V.un,V.gd,b1k,b3s,b4p,Tryz.underlying3,Ty.c3,Ty.a3,Ty.b3,Ty.s3,Tryz.underlying75,Ty.c75,Ty.a75,Ty.b75,Ty.s75]
    repeat (refine ai (by first | rfl | (intros;simp_all;done)) ?_)
    first | refine b4x _ (b8b x6 (m+1+1+1+1+1+1) hll (by omega)) (by first | rfl | (simp only [b1l,b15,b1g,b06,idx,b1j,List.getElem?_cons_zero,List.getElem?_cons_succ,Option.bind_some,Option.map_some,Blk.row,b0v,b09,b1d,b1b,b1c,b1e,cond_true,List.map_take];done) | (simp [b1l,b15,b1g,b06,idx,b1j,Blk.row,b0v,b09,b1d,b1b,b1c,b1e,Nat.beq_refl];done)) hO ⟨by simp [Blk.kindIs,b0v,b09],by simp⟩ (by first | exact .inl rfl | exact .inr (by simp [Blk.kindIs])) ⟨rfl,by simp [Blk.kindIs,b2g,b44]⟩ ?_ | refine b4a (b7y (m+1+1+1+1+1+1)) (by first | rfl | (simp only [b1l,b15,b1g,b06,idx,b1j,List.getElem?_cons_zero,List.getElem?_cons_succ,Option.bind_some,Option.map_some,Blk.row,b0v,b09,b1d,b1b,b1c,b1e,cond_true,List.map_take];done) | (simp [b1l,b15,b1g,b06,idx,b1j,Blk.row,b0v,b09,b1d,b1b,b1c,b1e,Nat.beq_refl];done)) (by first | exact .inl ⟨rfl,by simp [Blk.kindIs,b2g,b44]⟩ | exact .inr (by simp [V.cold])) ?_
    refine k _ ?_;clear k K
    simp only [zY,zW,b0m,Nat.reduceEqDiff,reduceIte,b7f,c8k,V.ren,V.renL,List.set_cons_zero,List.set_cons_succ,Nat.reduceAdd]
    refine b30 ⟨?_⟩;refine k41 _ ?_;refine n27 _ ?_
    apply n26
    ·apply b1i (b0f [0,1,5] _)
     simp only [b0s,b0k,b0h,b0i,b0n,Nat.reduceEqDiff,reduceIte]
     have hmne:(b19 (m+1+1+1+1+1+1) x6.length).isEmpty=false:=by cases x6 with | nil=>cases he | cons x l=>simp [b19,b3t,b5f,List.range_succ]
     rw [f29 (t:=(m,m+1,m+1+1,m+1+1+1,m+1+1+1+1,m+1+1+1+1+1,x6)) (u:=(m,m+1,m+1+1,m+1+1+1,m+1+1+1+1,m+1+1+1+1+1,b19 (m+1+1+1+1+1+1) x6.length)) (by omega) hmne,f6i (cur:=cur) (i:=i) (t:=(m,m+1,m+1+1,m+1+1+1,m+1+1+1+1,m+1+1+1+1+1,x6)) (u:=(m,m+1,m+1+1,m+1+1+1,m+1+1+1+1,m+1+1+1+1+1,b19 (m+1+1+1+1+1+1) x6.length)) rfl (by rw [he,hmne])]
     exact b6j (A:=[.arr (b3c (fun t:Int×Int×Int×Int×Int×Int×List Int=>[V.int .i64 t.1,V.int .i64 t.2.1,V.int .i64 t.2.2.1,V.int .i64 t.2.2.2.1,V.int .i64 t.2.2.2.2.1,V.int .i64 t.2.2.2.2.2.1]) (fun t:Int×Int×Int×Int×Int×Int×List Int=>t.2.2.2.2.2.2) 6 1 (cur.set i (m,m+1,m+1+1,m+1+1+1,m+1+1+1+1,m+1+1+1+1+1,b19 (m+1+1+1+1+1+1) x6.length))) .mix]) 0 ((cur.set i (m,m+1,m+1+1,m+1+1+1,m+1+1+1+1,m+1+1+1+1+1,b19 (m+1+1+1+1+1+1) x6.length)).map (fun t:Int×Int×Int×Int×Int×Int×List Int=>V.agg [V.int .i64 t.1,V.int .i64 t.2.1,V.int .i64 t.2.2.1,V.int .i64 t.2.2.2.1,V.int .i64 t.2.2.2.2.1,V.int .i64 t.2.2.2.2.2.1,V.sl (t.2.2.2.2.2.2.map (V.int .i64))])) (b3c (fun t:Int×Int×Int×Int×Int×Int×List Int=>[V.int .i64 t.1,V.int .i64 t.2.1,V.int .i64 t.2.2.1,V.int .i64 t.2.2.2.1,V.int .i64 t.2.2.2.2.1,V.int .i64 t.2.2.2.2.2.1]) (fun t:Int×Int×Int×Int×Int×Int×List Int=>t.2.2.2.2.2.2) 6 1 (cur.set i (m,m+1,m+1+1,m+1+1+1,m+1+1+1+1,m+1+1+1+1+1,b19 (m+1+1+1+1+1+1) x6.length))) ((cur.set i (m,m+1,m+1+1,m+1+1+1,m+1+1+1+1,m+1+1+1+1+1,b19 (m+1+1+1+1+1+1) x6.length)).flatMap (b83 (fun t:Int×Int×Int×Int×Int×Int×List Int=>[V.int .i64 t.1,V.int .i64 t.2.1,V.int .i64 t.2.2.1,V.int .i64 t.2.2.2.1,V.int .i64 t.2.2.2.2.1,V.int .i64 t.2.2.2.2.2.1]) (fun t:Int×Int×Int×Int×Int×Int×List Int=>t.2.2.2.2.2.2))) rfl rfl (c2k _) (c2i _ 1) (by simp [b3f]) f48 (b4g c6c _)
    try simp only [b1r,b1y,Nat.reduceEqDiff,reduceIte,List.set_cons_zero,List.set_cons_succ]
    refine yV ⟨?_⟩;refine n5 _ (i+1,m+1+1+1+1+1+1+x6.length,cur.set i (m,m+1,m+1+1,m+1+1+1,m+1+1+1+1,m+1+1+1+1+1,b19 (m+1+1+1+1+1+1) x6.length)) ?_ ?_ ?_
    ·refine b0b [0,1,5] [0] ⟨?_⟩
     first | (simp only [hkd];rfl) | trace_state
    ·exact ⟨hlt,by show 0≤m+1+1+1+1+1+1+(x6.length:Int);omega,by show (cur.set i _).length=_;rw [List.length_set];exact hL,by show m+1+1+1+1+1+1+(x6.length:Int)+b5p (ll.drop (i+1))=_;rw [←hK,htd];(try simp);omega,by show (cur.set i _).drop (i+1)=_;rw [List.drop_set_of_lt (by omega)];have h:=congrArg (List.drop 1) hD;simpa [List.drop_drop,Nat.add_comm] using h,by show (cur.set i _).take (i+1)++b5l (m+1+1+1+1+1+1+(x6.length:Int)) _=_;rw [←hM,b0r hx,b5l,b6f (by omega)]⟩
    ·show _ < _;show ll.length - (i+1) < ll.length - i;omega
  ·intro hc0
   refine zn [1] ⟨?_⟩;refine yR [4] ⟨?_⟩;refine zr ⟨?_⟩
   have hcur:cur=b5l kk ll:=by have h:=hM;rw [List.drop_of_length_le (by omega),b5l,List.append_nil,List.take_of_length_le (by omega)] at h;exact h
   have hmk:m=kk+b5p ll:=by rw [←hK,d7s (by omega)];omega
   rw [←hcur,←hmk]
   exact b4f rfl (by simp) rfl rfl (by simp [Blk.kindIs,b2g]) (.inl rfl)
def c5k (x:(Int×Int×Int×Int×Int×Int×List Int)):Bool:=inR x.1 0 x.2.1 && decide (x.2.1≤5) && inR x.2.2.1 0 x.2.2.2.1 && decide (x.2.2.2.1≤3) && inR x.2.2.2.2.1 0 x.2.2.2.2.2.1 && decide (x.2.2.2.2.2.1≤23) && c2f x.2.2.2.2.2.2
def c1n (x:(Int×Int×Int×Int×Int×Int×List Int)) (a b c:Int):Bool:=inR a x.1 x.2.1 && inR b x.2.2.1 x.2.2.2.1 && inR c x.2.2.2.2.1 x.2.2.2.2.2.1
def b9q (l:List (Int×Int×Int×Int×Int×Int×List Int)):Bool:=l.all c5k && decide ((l.length:Int)≤10)
def d3b (a b c:Int):Bool:=inR a 0 5 && inR b 0 3 && inR c 0 23
def d1k (l:List (Int×Int×Int×Int×Int×Int×List Int)) (a b c:Int):Int:=b20 (fun x:(Int×Int×Int×Int×Int×Int×List Int)=>c1n x a b c) 0 l
def nfL (l:List (Int×Int×Int×Int×Int×Int×List Int)) (a b c:Int):List Int:=match l[(d1k l a b c).toNat]? with | some x=>x.2.2.2.2.2.2 | none=>[]
def nfB (l:List (Int×Int×Int×Int×Int×Int×List Int)) (a b c:Int):Bool:=b9q l && d3b a b c && decide (0≤d1k l a b c)
theorem d6f {l:List (Int×Int×Int×Int×Int×Int×List Int)} {a b c:Int} (h:0≤d1k l a b c):∃(k:Nat) (x:(Int×Int×Int×Int×Int×Int×List Int)),l[k]? =some x∧d1k l a b c=(k:Int)∧nfL l a b c=x.2.2.2.2.2.2:=by
  obtain ⟨k,x,h1,_,h3⟩:=f2c h
  have h4:d1k l a b c=(k:Int):=h3
  refine ⟨k,x,h1,h4,?_⟩
  rw [nfL,h4,Int.toNat_natCast,h1]
theorem d9l {l:List (Int×Int×Int×Int×Int×Int×List Int)} {a b c:Int} (ht:b9q l=true) (h:0≤d1k l a b c):(nfL l a b c).length=4∧∀v∈nfL l a b c,0≤v∧v≤6:=by
  obtain ⟨k,x,h1,_,h3⟩:=d6f h
  rw [b9q,Bool.and_eq_true,List.all_eq_true] at ht
  have q:=ht.1 x (List.mem_of_getElem? h1)
  rw [c5k,Bool.and_eq_true] at q
  rw [h3];exact b7n q.2
set_option maxRecDepth 8000 in
theorem f1d (x0:Int) (x1:Int) (x2:Int) (x3:Int) (x4:Int) (x5:Int) (x6:List Int) (hlx:x6.length≤1048576):Con Tryz.prog 167 [.agg [V.int .i64 x0,V.int .i64 x1,V.int .i64 x2,V.int .i64 x3,V.int .i64 x4,V.int .i64 x5,V.sl (x6.map (V.int .i64))]] [] (.bool (c5k (x0,x1,x2,x3,x4,x5,x6))) []:=by
 refine b05 [.tmp 2] [] Tryz.func167 rfl rfl rfl (by simp [Tryz.ntmps167]) ?_
 intro Q0 n0 r0
 simp only [Tryz.ntmps167,b0l,Nat.reduceAdd]
 have T:=Tys.mk (ai Ty.t3 (ai Ty.t4 (ai Ty.t75 Ty.t138)))
 have F:=Fc.mk True.intro
 refine yR [1] ⟨?_⟩;refine b4y [2] ?_;intro K2 k2;refine zq7 ⟨?_⟩;refine zq7 ⟨?_⟩;refine zc (b2b _ _ _) ⟨?_⟩;refine zq4 ⟨?_⟩;refine c4v ⟨?_⟩;refine zq6 ⟨?_⟩;refine zq2 ⟨?_⟩;refine zgc (b2b _ _ _) ⟨?_⟩;refine zq6 ⟨?_⟩;refine c4v ⟨?_⟩;refine zq6 ⟨?_⟩;refine zq2 ⟨?_⟩;refine zgc (b2b _ _ _) ⟨?_⟩;refine zq6 ⟨?_⟩;refine c4v ⟨?_⟩;refine zq6 ⟨?_⟩;refine zgc (b8z x6 hlx) ⟨?_⟩;refine c81 ⟨?_⟩;refine b30 ⟨?_⟩;refine k2 _ ?_;refine zq1 ⟨?_⟩
 exact b0a rfl (by simp [c5k,inR,Bool.and_assoc]) (.inl rfl)
set_option maxRecDepth 8000 in
theorem f1w (x0:Int) (x1:Int) (x2:Int) (x3:Int) (x4:Int) (x5:Int) (x6:List Int) (hlx:x6.length≤1048576):Con Tryz.prog 186 [.agg [V.int .i64 x0,V.int .i64 x1,V.int .i64 x2,V.int .i64 x3,V.int .i64 x4,V.int .i64 x5,V.sl (x6.map (V.int .i64))]] [] (.bool (c5k (x0,x1,x2,x3,x4,x5,x6))) []:=by
 refine b05 [.tmp 2] [] Tryz.func186 rfl rfl rfl (by simp [Tryz.ntmps186]) ?_
 intro Q0 n0 r0
 simp only [Tryz.ntmps186,b0l,Nat.reduceAdd]
 have T:=Tys.mk (ai Ty.t3 (ai Ty.t4 (ai Ty.t75 Ty.t138)))
 have F:=Fc.mk True.intro
 refine yR [1] ⟨?_⟩;refine b4y [2] ?_;intro K2 k2;refine zq7 ⟨?_⟩;refine zc (b2o _ _ _) ⟨?_⟩;refine zq4 ⟨?_⟩;refine zq2 ⟨?_⟩;refine zgc (b2o _ _ _) ⟨?_⟩;refine zq6 ⟨?_⟩;refine zgc (b2o _ _ _) ⟨?_⟩;refine zq6 ⟨?_⟩;refine zq2 ⟨?_⟩;refine zgc (b2o _ _ _) ⟨?_⟩;refine zq6 ⟨?_⟩;refine zgc (b2o _ _ _) ⟨?_⟩;refine zq6 ⟨?_⟩;refine zq2 ⟨?_⟩;refine zgc (b2o _ _ _) ⟨?_⟩;refine zq6 ⟨?_⟩;refine zgc (c9t x6 hlx) ⟨?_⟩;refine c81 ⟨?_⟩;refine b30 ⟨?_⟩;refine k2 _ ?_;refine zq1 ⟨?_⟩
 exact b0a rfl (congrArg V.bool (by rw [Bool.eq_iff_iff];simp only [c5k,inR,Bool.and_eq_true,decide_eq_true_eq];generalize c2f x6=t;cases t<;>simp<;>omega)) (.inl rfl)
set_option maxRecDepth 8000 in
theorem d5x (l:List (Int×Int×Int×Int×Int×Int×List Int)) (hl:l.length≤1048576) (hls:∀t∈l,t.2.2.2.2.2.2.length≤1048576):Con Tryz.prog 94 [.sl (l.map (fun t:Int×Int×Int×Int×Int×Int×List Int=>V.agg [V.int .i64 t.1,V.int .i64 t.2.1,V.int .i64 t.2.2.1,V.int .i64 t.2.2.2.1,V.int .i64 t.2.2.2.2.1,V.int .i64 t.2.2.2.2.2.1,V.sl (t.2.2.2.2.2.2.map (V.int .i64))]))] [] (.bool (b9q l)) []:=by
 refine b05 [.tmp 2] [] Tryz.func94 rfl rfl rfl (by simp [Tryz.ntmps94]) ?_
 intro Q0 n0 r0
 simp only [Tryz.ntmps94,b0l,Nat.reduceAdd]
 have T:=Tys.mk (ai Ty.t3 (ai Ty.t4 (ai Ty.t63 (ai Ty.t75 Ty.t138))))
 have F:=Fc.mk True.intro
 refine yR [0] ⟨?_⟩;refine b0c ?_;intros;refine yR [0,5,6,7] ⟨?_⟩;refine b0g ?_;intro Q4 n4 x4 e4 r4;refine b08 (fun i=>⟨[(0,.sl (l.map (fun t:Int×Int×Int×Int×Int×Int×List Int=>V.agg [V.int .i64 t.1,V.int .i64 t.2.1,V.int .i64 t.2.2.1,V.int .i64 t.2.2.2.1,V.int .i64 t.2.2.2.2.1,V.int .i64 t.2.2.2.2.2.1,V.sl (t.2.2.2.2.2.2.map (V.int .i64))]))),(5,.sl (l.map (fun t:Int×Int×Int×Int×Int×Int×List Int=>V.agg [V.int .i64 t.1,V.int .i64 t.2.1,V.int .i64 t.2.2.1,V.int .i64 t.2.2.2.1,V.int .i64 t.2.2.2.2.1,V.int .i64 t.2.2.2.2.2.1,V.sl (t.2.2.2.2.2.2.map (V.int .i64))]))),(6,.int .i64 l.length),(7,.int .i64 (Nat.cast i))],[],false,18,0⟩) (fun i=>i≤l.length∧(l.drop i).all c5k=l.all c5k) (fun i=>l.length - i) 0 ?_ ?_ ?_
 ·refine b1a [0,5,6,7] ?_
  simp only [b0s,b0k,b0h,b0i,b0n,Nat.reduceEqDiff,reduceIte]
  rfl
 ·exact ⟨Nat.zero_le _,rfl⟩
 ·rintro i hok5 Q5 n5 e5 r5
  obtain ⟨hi1,hR⟩:=hok5
  refine yR [0,5,6,7,8] ⟨?_⟩;refine b0c ?_;intros;refine b0d _ rfl ?_ ?_
  ·intro hc0
   have hlt:i < l.length:=by omega
   obtain ⟨⟨x0,x1,x2,x3,x4,x5,x6⟩,hx⟩:∃x:Int×Int×Int×Int×Int×Int×List Int,l[i]? =some x:=⟨l[i]'(by omega),List.getElem?_eq_getElem (by omega)⟩
   have hlx:=hls _ (List.mem_of_getElem? hx)
   simp only [] at hlx
   have hst:=b5m (p:=c5k) hx
   refine zn [0,5,6,7] ⟨?_⟩;refine b0c ?_;intros;refine b0g ?_;intros
   have F:=Fc.mk (gdm hx)
   refine yR [0,4,5,6,7] ⟨?_⟩;refine yRc [0,5,6,7,13] (f1d x0 x1 x2 x3 x4 x5 x6 hlx) ⟨?_⟩;refine b0d _ rfl ?_ ?_
   ·intro hc1
    refine yR [2] ⟨?_⟩;refine zr ⟨?_⟩
    exact b0a rfl (by rw [b9q,←hR,hst,hc1];simp) (.inl rfl)
   ·intro hc1
    refine zn [0,5,6,7] ⟨?_⟩;refine yV ⟨?_⟩;refine n5 _ (i+1) ?_ ?_ ?_
    ·refine b0b [0,5,6,7] [] ⟨?_⟩
     rfl
    ·exact ⟨hlt,by rw [←hR,hst,hc1];simp⟩
    ·show _ < _;omega
  ·intro hc0
   refine zn [0] ⟨?_⟩;refine yR [2] ⟨?_⟩;refine zr ⟨?_⟩
   exact b0a rfl (by rw [b9q,←hR,b7k (by omega)];simp) (.inl rfl)
set_option maxRecDepth 8000 in
theorem d8e (l:List (Int×Int×Int×Int×Int×Int×List Int)) (hl:l.length≤1048576) (hls:∀t∈l,t.2.2.2.2.2.2.length≤1048576):Con Tryz.prog 107 [.sl (l.map (fun t:Int×Int×Int×Int×Int×Int×List Int=>V.agg [V.int .i64 t.1,V.int .i64 t.2.1,V.int .i64 t.2.2.1,V.int .i64 t.2.2.2.1,V.int .i64 t.2.2.2.2.1,V.int .i64 t.2.2.2.2.2.1,V.sl (t.2.2.2.2.2.2.map (V.int .i64))]))] [] (.bool (b9q l)) []:=by
 refine b05 [.tmp 2] [] Tryz.func107 rfl rfl rfl (by simp [Tryz.ntmps107]) ?_
 intro Q0 n0 r0
 simp only [Tryz.ntmps107,b0l,Nat.reduceAdd]
 have T:=Tys.mk (ai Ty.t3 (ai Ty.t4 (ai Ty.t63 (ai Ty.t75 Ty.t138))))
 have F:=Fc.mk True.intro
 refine yR [0] ⟨?_⟩;refine b0c ?_;intros;refine yR [0,5,6,7] ⟨?_⟩;refine b0g ?_;intro Q4 n4 x4 e4 r4;refine b08 (fun i=>⟨[(0,.sl (l.map (fun t:Int×Int×Int×Int×Int×Int×List Int=>V.agg [V.int .i64 t.1,V.int .i64 t.2.1,V.int .i64 t.2.2.1,V.int .i64 t.2.2.2.1,V.int .i64 t.2.2.2.2.1,V.int .i64 t.2.2.2.2.2.1,V.sl (t.2.2.2.2.2.2.map (V.int .i64))]))),(5,.sl (l.map (fun t:Int×Int×Int×Int×Int×Int×List Int=>V.agg [V.int .i64 t.1,V.int .i64 t.2.1,V.int .i64 t.2.2.1,V.int .i64 t.2.2.2.1,V.int .i64 t.2.2.2.2.1,V.int .i64 t.2.2.2.2.2.1,V.sl (t.2.2.2.2.2.2.map (V.int .i64))]))),(6,.int .i64 l.length),(7,.int .i64 (Nat.cast i))],[],false,18,0⟩) (fun i=>i≤l.length∧(l.drop i).all c5k=l.all c5k) (fun i=>l.length - i) 0 ?_ ?_ ?_
 ·refine b1a [0,5,6,7] ?_
  simp only [b0s,b0k,b0h,b0i,b0n,Nat.reduceEqDiff,reduceIte]
  rfl
 ·exact ⟨Nat.zero_le _,rfl⟩
 ·rintro i hok5 Q5 n5 e5 r5
  obtain ⟨hi1,hR⟩:=hok5
  refine yR [0,5,6,7,8] ⟨?_⟩;refine b0c ?_;intros;refine b0d _ rfl ?_ ?_
  ·intro hc0
   have hlt:i < l.length:=by omega
   obtain ⟨⟨x0,x1,x2,x3,x4,x5,x6⟩,hx⟩:∃x:Int×Int×Int×Int×Int×Int×List Int,l[i]? =some x:=⟨l[i]'(by omega),List.getElem?_eq_getElem (by omega)⟩
   have hlx:=hls _ (List.mem_of_getElem? hx)
   simp only [] at hlx
   have hst:=b5m (p:=c5k) hx
   refine zn [0,5,6,7] ⟨?_⟩;refine b0c ?_;intros;refine b0g ?_;intros
   have F:=Fc.mk (gdm hx)
   refine yR [0,4,5,6,7] ⟨?_⟩;refine yRc [0,5,6,7,13] (f1w x0 x1 x2 x3 x4 x5 x6 hlx) ⟨?_⟩;refine b0d _ rfl ?_ ?_
   ·intro hc1
    refine yR [2] ⟨?_⟩;refine zr ⟨?_⟩
    exact b0a rfl (by rw [b9q,←hR,hst,hc1];simp) (.inl rfl)
   ·intro hc1
    refine zn [0,5,6,7] ⟨?_⟩;refine yV ⟨?_⟩;refine n5 _ (i+1) ?_ ?_ ?_
    ·refine b0b [0,5,6,7] [] ⟨?_⟩
     rfl
    ·exact ⟨hlt,by rw [←hR,hst,hc1];simp⟩
    ·show _ < _;omega
  ·intro hc0
   refine zn [0] ⟨?_⟩;refine yR [2] ⟨?_⟩;refine zr ⟨?_⟩
   exact b0a rfl (by rw [b9q,←hR,b7k (by omega)];simp) (.inl rfl)
theorem d9r (a b c:Int):Con Tryz.prog 96 [.agg [.int .i64 a,.int .i64 b,.int .i64 c]] [] (.bool (d3b a b c)) []:=by
 refine b05 [.tmp 2] [] Tryz.func96 rfl rfl rfl (by simp [Tryz.ntmps96]) ?_
 intro Q0 n0 r0
 simp only [Tryz.ntmps96,b0l,Nat.reduceAdd]
 have T:=Tys.mk (ai Ty.t3 (ai Ty.t4 Ty.t65))
 have F:=Fc.mk True.intro
 refine yR [1] ⟨?_⟩;refine c7e [2] (b2b _ _ _) (b2b _ _ _) (b2b _ _ _) ⟨?_⟩;refine zr ⟨?_⟩
 exact b0a rfl (by simp [d3b,inR,Bool.and_assoc]) (.inl rfl)
theorem d8c (a b c:Int):Con Tryz.prog 108 [.agg [.int .i64 a,.int .i64 b,.int .i64 c]] [] (.bool (d3b a b c)) []:=by
 refine b05 [.tmp 2] [] Tryz.func108 rfl rfl rfl (by simp [Tryz.ntmps108]) ?_
 intro Q0 n0 r0
 simp only [Tryz.ntmps108,b0l,Nat.reduceAdd]
 have T:=Tys.mk (ai Ty.t3 (ai Ty.t4 Ty.t65))
 have F:=Fc.mk True.intro
 refine yR [1] ⟨?_⟩;refine c7e [2] (b2o _ _ _) (b2o _ _ _) (b2o _ _ _) ⟨?_⟩;refine zr ⟨?_⟩
 exact b0a rfl (by simp [d3b,inR,Bool.and_assoc]) (.inl rfl)
set_option maxRecDepth 8000 in
theorem d5c (x0:Int) (x1:Int) (x2:Int) (x3:Int) (x4:Int) (x5:Int) (x6:List Int) (a b c:Int):Con Tryz.prog 221 [.agg [V.int .i64 x0,V.int .i64 x1,V.int .i64 x2,V.int .i64 x3,V.int .i64 x4,V.int .i64 x5,V.sl (x6.map (V.int .i64))],.agg [.int .i64 a,.int .i64 b,.int .i64 c]] [] (.bool (c1n (x0,x1,x2,x3,x4,x5,x6) a b c)) []:=by
 refine b05 [.tmp 4] [] Tryz.func221 rfl rfl rfl (by simp [Tryz.ntmps221]) ?_
 intro Q0 n0 r0
 simp only [Tryz.ntmps221,b0l,Nat.reduceAdd]
 have T:=Tys.mk (ai Ty.t3 (ai Ty.t4 (ai Ty.t65 (ai Ty.t75 Ty.t138))))
 have F:=Fc.mk True.intro
 refine yR [2,3] ⟨?_⟩;refine c7e [4] (b2b _ _ _) (b2b _ _ _) (b2b _ _ _) ⟨?_⟩;refine zr ⟨?_⟩
 exact b0a rfl (by simp [c1n,inR,Bool.and_assoc]) (.inl rfl)
set_option maxRecDepth 8000 in
theorem d0p (x0:Int) (x1:Int) (x2:Int) (x3:Int) (x4:Int) (x5:Int) (x6:List Int) (a b c:Int):Con Tryz.prog 187 [.agg [V.int .i64 x0,V.int .i64 x1,V.int .i64 x2,V.int .i64 x3,V.int .i64 x4,V.int .i64 x5,V.sl (x6.map (V.int .i64))],.agg [.int .i64 a,.int .i64 b,.int .i64 c]] [] (.bool (c1n (x0,x1,x2,x3,x4,x5,x6) a b c)) []:=by
 refine b05 [.tmp 4] [] Tryz.func187 rfl rfl rfl (by simp [Tryz.ntmps187]) ?_
 intro Q0 n0 r0
 simp only [Tryz.ntmps187,b0l,Nat.reduceAdd]
 have T:=Tys.mk (ai Ty.t3 (ai Ty.t4 (ai Ty.t65 (ai Ty.t75 Ty.t138))))
 have F:=Fc.mk True.intro
 refine yR [2,3] ⟨?_⟩;refine c7e [4] (b2o _ _ _) (b2o _ _ _) (b2o _ _ _) ⟨?_⟩;refine zr ⟨?_⟩
 exact b0a rfl (by simp [c1n,inR,Bool.and_assoc]) (.inl rfl)
theorem d4x (x0:Int) (x1:Int) (x2:Int) (x3:Int) (x4:Int) (x5:Int) (x6:List Int) (a b c:Int):Con Tryz.prog 220 [.agg [V.int .i64 x0,V.int .i64 x1,V.int .i64 x2,V.int .i64 x3,V.int .i64 x4,V.int .i64 x5,V.sl (x6.map (V.int .i64))],.pv [.agg [.int .i64 a,.int .i64 b,.int .i64 c]] 0 0] [] (.bool (c1n (x0,x1,x2,x3,x4,x5,x6) a b c)) []:=by
 refine b05 [.tmp 3] [] Tryz.func220 rfl rfl rfl (by simp [Tryz.ntmps220]) ?_
 intro Q0 n0 r0
 simp only [Tryz.ntmps220,b0l,Nat.reduceAdd]
 have T:=Tys.mk (ai Ty.t3 (ai Ty.t4 (ai Ty.t65 (ai Ty.t75 Ty.t138))))
 have F:=Fc.mk True.intro
 refine yR [1,2] ⟨?_⟩;refine yRc [3] (d5c x0 x1 x2 x3 x4 x5 x6 a b c) ⟨?_⟩;refine zr ⟨?_⟩
 exact b0a rfl rfl (.inl rfl)
theorem d8s (l:List (Int×Int×Int×Int×Int×Int×List Int)) (a b c:Int) (hl:l.length≤1048576):Con Tryz.prog 168 [.sl (l.map (fun t:Int×Int×Int×Int×Int×Int×List Int=>V.agg [V.int .i64 t.1,V.int .i64 t.2.1,V.int .i64 t.2.2.1,V.int .i64 t.2.2.2.1,V.int .i64 t.2.2.2.2.1,V.int .i64 t.2.2.2.2.2.1,V.sl (t.2.2.2.2.2.2.map (V.int .i64))])),.agg [.int .i64 a,.int .i64 b,.int .i64 c]] [] (.int .i64 (d1k l a b c)) []:=by
 refine b05 [.tmp 4] [] Tryz.func168 rfl rfl rfl (by simp [Tryz.ntmps168]) ?_
 intro Q0 n0 r0
 simp only [Tryz.ntmps168,b0l,Nat.reduceAdd]
 have T:=Tys.mk (ai Ty.t3 (ai Ty.t63 (ai Ty.t65 (ai Ty.t75 Ty.t138))))
 have F:=Fc.mk True.intro
 refine yR [0,3] ⟨?_⟩;refine yRc [4] (c5u l _ _ (fun x=>c1n x a b c) hl (.pv _ .nil) (fun x0 x1 x2 x3 x4 x5 x6 _=>d4x x0 x1 x2 x3 x4 x5 x6 a b c)) ⟨?_⟩;refine zr ⟨?_⟩
 exact b0a rfl rfl (.inl rfl)
set_option maxRecDepth 8000 in
theorem d2u (l:List (Int×Int×Int×Int×Int×Int×List Int)) (a b c:Int) (hl:l.length≤1048576):Con Tryz.prog 109 [.sl (l.map (fun t:Int×Int×Int×Int×Int×Int×List Int=>V.agg [V.int .i64 t.1,V.int .i64 t.2.1,V.int .i64 t.2.2.1,V.int .i64 t.2.2.2.1,V.int .i64 t.2.2.2.2.1,V.int .i64 t.2.2.2.2.2.1,V.sl (t.2.2.2.2.2.2.map (V.int .i64))])),.agg [.int .i64 a,.int .i64 b,.int .i64 c]] [] (.int .i64 (d1k l a b c)) []:=by
 refine b05 [.tmp 4] [] Tryz.func109 rfl rfl rfl (by simp [Tryz.ntmps109]) ?_
 intro Q0 n0 r0
 simp only [Tryz.ntmps109,b0l,Nat.reduceAdd]
 have T:=Tys.mk (ai Ty.t3 (ai Ty.t4 (ai Ty.t63 (ai Ty.t65 (ai Ty.t75 Ty.t138)))))
 have F:=Fc.mk True.intro
 refine yR [0,3] ⟨?_⟩;refine b0c ?_;intros;refine yR [3,7,8,9] ⟨?_⟩;refine b0g ?_;intro Q4 n4 x4 e4 r4;refine b08 (fun i=>⟨[(3,.ptr 0 0 0),(7,.sl (l.map (fun t:Int×Int×Int×Int×Int×Int×List Int=>V.agg [V.int .i64 t.1,V.int .i64 t.2.1,V.int .i64 t.2.2.1,V.int .i64 t.2.2.2.1,V.int .i64 t.2.2.2.2.1,V.int .i64 t.2.2.2.2.2.1,V.sl (t.2.2.2.2.2.2.map (V.int .i64))]))),(8,.int .i64 l.length),(9,.int .i64 (Nat.cast i))],[.box (.agg [.int .i64 a,.int .i64 b,.int .i64 c]) .flat],false,19,0⟩) (fun i=>i≤l.length∧b20 (fun x:(Int×Int×Int×Int×Int×Int×List Int)=>c1n x a b c) i (l.drop i)=b20 (fun x:(Int×Int×Int×Int×Int×Int×List Int)=>c1n x a b c) 0 l) (fun i=>l.length - i) 0 ?_ ?_ ?_
 ·refine b0b [3,7,8,9] [0] ⟨?_⟩
  rfl
 ·exact ⟨Nat.zero_le _,rfl⟩
 ·rintro i hok5 Q5 n5 e5 r5
  obtain ⟨hi1,hR⟩:=hok5
  refine yR [3,7,8,9,10] ⟨?_⟩;refine b0c ?_;intros;refine b0d _ rfl ?_ ?_
  ·intro hc0
   have hlt:i < l.length:=by omega
   obtain ⟨⟨x0,x1,x2,x3,x4,x5,x6⟩,hx⟩:∃x:Int×Int×Int×Int×Int×Int×List Int,l[i]? =some x:=⟨l[i]'(by omega),List.getElem?_eq_getElem (by omega)⟩
   have hst:=b54 (p:=fun x:(Int×Int×Int×Int×Int×Int×List Int)=>c1n x a b c) hx
   refine zn [3,7,8,9] ⟨?_⟩;refine b0c ?_;intros;refine b0g ?_;intros
   have F:=Fc.mk (gdm hx)
   refine yR [3,5,6,7,8,9] ⟨?_⟩;refine yRc [3,5,7,8,9,16] (d0p x0 x1 x2 x3 x4 x5 x6 a b c) ⟨?_⟩;refine b0d _ rfl ?_ ?_
   ·intro hc1
    refine yR [4] ⟨?_⟩;refine zr ⟨?_⟩
    exact b0a rfl (by rw [d1k,←hR,hst,if_pos hc1]) (.inl rfl)
   ·intro hc1
    refine zn [3,7,8,9] ⟨?_⟩;refine yV ⟨?_⟩;refine n5 _ (i+1) ?_ ?_ ?_
    ·refine b0b [3,7,8,9] [0] ⟨?_⟩
     rfl
    ·exact ⟨hlt,by rw [←hR,hst,if_neg (by simp [hc1])]⟩
    ·show _ < _;omega
  ·intro hc0
   refine zn [] ⟨?_⟩;refine yR [4] ⟨?_⟩;refine zr ⟨?_⟩
   exact b0a rfl (by rw [d1k,←hR,b7a (by omega)]) (.inl rfl)
end Go.Proofs.YtaefoaghpehbpaaGreat
