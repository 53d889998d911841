/- What functions compute. No condition. -/
import Derived.Test.YtaefoaghpehbpaaGreatUz
import Derived.Test.YtaefoaghpehbpaaGreatUty
import Derived.Test.YtaefoaghpehbpaaGreatUmG
import Derived.Test.YtaefoaghpehbpaaGreatX12
import Derived.Test.YtaefoaghpehbpaaGreatX1
import Derived.Test.YtaefoaghpehbpaaGreatX3
import Derived.Test.YtaefoaghpehbpaaGreatX10
import Derived.Test.YtaefoaghpehbpaaGreatX8
import Derived.Test.YtaefoaghpehbpaaGreatX9
import Derived.Test.YtaefoaghpehbpaaGreatX6
import Derived.Test.YtaefoaghpehbpaaGreatX4
import Derived.Test.YtaefoaghpehbpaaGreatX7
set_option linter.unusedSimpArgs false
set_option linter.unusedVariables false
set_option linter.defProp false
namespace Go.Proofs.YtaefoaghpehbpaaGreat
open Go Go.Vm
set_option maxHeartbeats 8000000
def b1m:Int→List TI→List TI
  | _,[]=>[]
  | k,t::l=>(k,k+1,decide (Int.tmod (k+1+1) 3=0),b3t (k+1+1+1) t.2.2.2.length)::b1m (k+1+1+1+t.2.2.2.length) l
def b1q:List TI→Int
  | []=>0
  | t::l=>3+t.2.2.2.length+b1q l
theorem b3h:∀l:List TI,0≤b1q l
  | []=>Int.le_refl _
  | t::l=>by have:=b3h l;rw [b1q];omega
theorem b3w:∀{l:List TI},(∀t∈l,t.2.2.2.length≤1048576)→b1q l≤1048580 * l.length
  | [],_=>Int.le_refl _
  | t::l,h=>by
    have h1:=b3w (l:=l) fun x hx=>h x (List.mem_cons_of_mem _ hx)
    have h2:=h t (List.mem_cons_self ..)
    rw [b1q,List.length_cons];omega
theorem b9w {l:List TI} {i:Nat} {t:TI} (h:l[i]? =some t):b1q (l.drop i)=3+t.2.2.2.length+b1q (l.drop (i+1)):=by
  rw [b0r h,b1q]
theorem c0d {l:List TI} {i:Nat} (h:l.length≤i):b1q (l.drop i)=0:=by
  rw [List.drop_of_length_le h];rfl
theorem b4v:∀(l:List TI) (k:Int),(b1m k l).length=l.length
  | [],_=>rfl
  | t::l,k=>by rw [b1m,List.length_cons,List.length_cons,b4v l]
theorem f6x {cur:List TI} {i:Nat} {t:TI} (h:cur[i]? =some t):(b3c (fun t:TI=>[V.int .i64 t.1,V.int .i64 t.2.1,V.bool t.2.2.1]) (fun t:TI=>t.2.2.2) 3 1 cur).getD i .any=V.agg [V.int .i64 t.1,V.int .i64 t.2.1,V.bool t.2.2.1,c53 (1+4 * i+3) t.2.2.2]:=by
  rw [List.getD_eq_getElem?_getD,c2u h];rfl
theorem f6e {cur:List TI} {i:Nat} {t u:TI} (h1:[V.int .i64 t.1,V.int .i64 t.2.1,V.bool t.2.2.1]=[V.int .i64 u.1,V.int .i64 u.2.1,V.bool u.2.2.1]) (h:t.2.2.2.isEmpty=u.2.2.2.isEmpty):(b3c (fun t:TI=>[V.int .i64 t.1,V.int .i64 t.2.1,V.bool t.2.2.1]) (fun t:TI=>t.2.2.2) 3 1 (cur.set i t))=(b3c (fun t:TI=>[V.int .i64 t.1,V.int .i64 t.2.1,V.bool t.2.2.1]) (fun t:TI=>t.2.2.2) 3 1 (cur.set i u)):=by
  rw [←b7s (pre:=(fun t:TI=>[V.int .i64 t.1,V.int .i64 t.2.1,V.bool t.2.2.1])) (sl:=(fun t:TI=>t.2.2.2)) (n:=3) (t:=t),←b7s (pre:=(fun t:TI=>[V.int .i64 t.1,V.int .i64 t.2.1,V.bool t.2.2.1])) (sl:=(fun t:TI=>t.2.2.2)) (n:=3) (t:=u),d0o,d0o,c53,c53,h1,h]
theorem f57 {b:Blk} {cur:List TI} {i:Nat} {t:TI} (h:cur[i]? =some t) (hne:t.2.2.2.isEmpty=false):(b::(b5g V.str ((cur).flatMap (b83 (fun t:TI=>[V.int .i64 t.1,V.int .i64 t.2.1,V.bool t.2.2.1]) (fun t:TI=>t.2.2.2)))))[1+4 * i+3]? =some (.arr (t.2.2.2.map V.str) .flat):=by
  rw [show 1+4 * i+3=(4 * i+3)+1 by omega,List.getElem?_cons_succ,c2q (pre:=(fun t:TI=>[V.int .i64 t.1,V.int .i64 t.2.1,V.bool t.2.2.1])) (sl:=(fun t:TI=>t.2.2.2)) (n:=3) (fun _=>rfl) h]
  simp [d53,hne]
theorem d0q:∀(l:List TI) (N:Nat),∀x∈(b3c (fun t:TI=>[V.int .i64 t.1,V.int .i64 t.2.1,V.bool t.2.2.1]) (fun t:TI=>t.2.2.2) 3 N l),x.cells.length=4
  | [],_,x,h=>by cases h
  | t::l,N,x,h=>by
    rcases List.mem_cons.1 h with e | e
    · subst e;rfl
    · exact d0q l _ x e
theorem f7h {ll:List TI} {N:Nat}:∀n,(∀x∈ll.map (fun t:TI=>V.agg [V.int .i64 t.1,V.int .i64 t.2.1,V.bool t.2.2.1,V.sl (t.2.2.2.map V.str)]),x.cells.length=n)→∀x∈(b3c (fun t:TI=>[V.int .i64 t.1,V.int .i64 t.2.1,V.bool t.2.2.1]) (fun t:TI=>t.2.2.2) 3 N ll),x.cells.length=n:=by
  intro n h x hx
  cases ll with
  | nil=>cases hx
  | cons t l=>
    rw [d0q _ _ x hx,←h _ (List.mem_cons_self ..)];rfl
theorem f49 {ll:List TI} {N:Nat}:∀n,(∀x∈(b3c (fun t:TI=>[V.int .i64 t.1,V.int .i64 t.2.1,V.bool t.2.2.1]) (fun t:TI=>t.2.2.2) 3 N ll),x.cells.length=n)→∀x∈ll.map (fun t:TI=>V.agg [V.int .i64 t.1,V.int .i64 t.2.1,V.bool t.2.2.1,V.sl (t.2.2.2.map V.str)]),x.cells.length=n:=by
  intro n h x hx
  cases ll with
  | nil=>cases hx
  | cons t l=>
    have h1:=h _ (List.mem_cons_self ..)
    obtain ⟨u,_,rfl⟩:=List.mem_map.1 hx
    rw [←h1];rfl
theorem c3p (ll:List TI):(ll.map (fun t:TI=>V.agg [V.int .i64 t.1,V.int .i64 t.2.1,V.bool t.2.2.1,V.sl (t.2.2.2.map V.str)])).flatMap V.cells=(ll.flatMap (b83 (fun t:TI=>[V.int .i64 t.1,V.int .i64 t.2.1,V.bool t.2.2.1]) (fun t:TI=>t.2.2.2))).map (d03 V.str):=c4z (pre:=(fun t:TI=>[V.int .i64 t.1,V.int .i64 t.2.1,V.bool t.2.2.1])) (sl:=(fun t:TI=>t.2.2.2)) (f:=V.str) ll
theorem c3s (ll:List TI) (N:Nat):(b3c (fun t:TI=>[V.int .i64 t.1,V.int .i64 t.2.1,V.bool t.2.2.1]) (fun t:TI=>t.2.2.2) 3 N ll).flatMap V.cells=b9g N (ll.flatMap (b83 (fun t:TI=>[V.int .i64 t.1,V.int .i64 t.2.1,V.bool t.2.2.1]) (fun t:TI=>t.2.2.2))):=c1d (pre:=(fun t:TI=>[V.int .i64 t.1,V.int .i64 t.2.1,V.bool t.2.2.1])) (sl:=(fun t:TI=>t.2.2.2)) (n:=3) (fun _=>rfl) ll N
theorem c50:∀t:TI,∀v∈(fun t:TI=>[V.int .i64 t.1,V.int .i64 t.2.1,V.bool t.2.2.1]) t,v.only (fun _=>false)=true∧v.noSl=true∧v.cells=[v]:=by
  intro t v hv
  simp only [List.mem_cons,List.not_mem_nil,or_false] at hv
  rcases hv with rfl | rfl | rfl<;>exact ⟨rfl,rfl,rfl⟩
theorem f4r {cur:List TI} {i:Nat} {t u:TI} (h:i < cur.length) (hne:u.2.2.2.isEmpty=false):(b5g V.str (((cur.set i t)).flatMap (b83 (fun t:TI=>[V.int .i64 t.1,V.int .i64 t.2.1,V.bool t.2.2.1]) (fun t:TI=>t.2.2.2)))).set (1+4 * i+2) (.arr (u.2.2.2.map V.str) .flat)=(b5g V.str (((cur.set i u)).flatMap (b83 (fun t:TI=>[V.int .i64 t.1,V.int .i64 t.2.1,V.bool t.2.2.1]) (fun t:TI=>t.2.2.2)))):=by
  have q:=c2z (pre:=(fun t:TI=>[V.int .i64 t.1,V.int .i64 t.2.1,V.bool t.2.2.1])) (sl:=(fun t:TI=>t.2.2.2)) (f:=V.str) (n:=3) (fun _=>rfl) (l:=cur.set i t) (i:=i) (t:=u) (by rw [List.length_set];exact h)
  rw [List.set_set] at q
  rw [show d53 V.str ((fun t:TI=>t.2.2.2) u)=.arr (u.2.2.2.map V.str) .flat by simp [d53,hne],show (3+1) * i+3=1+4 * i+2 by omega] at q
  exact q
set_option maxRecDepth 8000 in
theorem c4e (ll:List TI) (kk:Int) (hl:ll.length≤1048576) (hls:∀t∈ll,t.2.2.2.length≤1048576) (hk:0≤kk∧kk≤10000000000000):Con Tryz.prog 77 [.ref 0,.int .i64 kk] [.arr (ll.map (fun t:TI=>V.agg [V.int .i64 t.1,V.int .i64 t.2.1,V.bool t.2.2.1,V.sl (t.2.2.2.map V.str)])) (b1v ll.length)] (.int .i64 (kk+b1q ll)) [.arr ((b1m kk ll).map (fun t:TI=>V.agg [V.int .i64 t.1,V.int .i64 t.2.1,V.bool t.2.2.1,V.sl (t.2.2.2.map V.str)])) (b1v ll.length)]:=by
 refine b05 [.tmp 4] [(24,[0])] Tryz.func77 rfl rfl rfl (by simp [Tryz.ntmps77]) ?_
 intro Q0 n0 r0
 simp only [Tryz.ntmps77,b0l,Nat.reduceAdd]
 have T:=Tys.mk (ai Ty.t3 (ai Ty.t4 (ai Ty.t9 (ai Ty.t33 (ai Ty.t51 Ty.t99)))))
 have F:=Fc.mk True.intro
 refine yR [0,1] ⟨?_⟩;refine b0c ?_;intros;refine yR [0,1,5] ⟨?_⟩;refine b0g ?_;intros;refine b08 (fun p=>⟨[(0,.ref 0),(1,.int .i64 p.2.1),(5,.int .i64 (Nat.cast p.1))],[.arr (p.2.2.map (fun t:TI=>V.agg [V.int .i64 t.1,V.int .i64 t.2.1,V.bool t.2.2.1,V.sl (t.2.2.2.map V.str)])) (b1v ll.length)],false,43,0⟩) (fun p=>p.1≤ll.length∧0≤p.2.1∧p.2.2.length=ll.length∧p.2.1+b1q (ll.drop p.1)=kk+b1q ll∧p.2.2.drop p.1=ll.drop p.1∧p.2.2.take p.1++b1m p.2.1 (ll.drop p.1)=b1m kk ll) (fun p=>ll.length - p.1) ((0,kk,ll):Nat×Int×List TI) ?_ ?_ ?_
 ·refine b0b [0,1,5] [0] ⟨?_⟩
  rfl
 ·exact ⟨Nat.zero_le _,hk.1,rfl,by simp,rfl,by simp⟩
 ·rintro ⟨i,m,cur⟩ hok5 Q5 n5 e5 r5
  obtain ⟨hi1,hm0,hL,hK,hD,hM⟩:=hok5
  simp only [] at hi1 hm0 hL hK hD hM⊢
  refine b0c ?_;intros;refine yR [0,1,5,9] ⟨?_⟩;refine b0d _ rfl ?_ ?_
  ·intro hc0
   have hclen:(cur.map (fun t:TI=>V.agg [V.int .i64 t.1,V.int .i64 t.2.1,V.bool t.2.2.1,V.sl (t.2.2.2.map V.str)])).length=ll.length:=by rw [List.length_map,hL]
   have hlt:i < ll.length:=by omega
   have hkd:b1v ll.length=.deep:=by unfold b1v;rw [if_neg (by omega)]
   obtain ⟨⟨x0,x1,x2,x3⟩,hx⟩:∃x,ll[i]? =some x:=⟨_,List.getElem?_eq_getElem hlt⟩
   have hll:=hls _ (List.mem_of_getElem? hx)
   have htd:=b9w hx
   simp only [] at hll htd
   have hpos:=b3h (ll.drop (i+1))
   have htt:=b3w hls
   have hcx:cur[i]? =some (x0,x1,x2,x3):=by have h:=congrArg (fun z=>z[0]?) hD;simpa [List.getElem?_drop,hx] using h
   have hsm:(cur.map (fun t:TI=>V.agg [V.int .i64 t.1,V.int .i64 t.2.1,V.bool t.2.2.1,V.sl (t.2.2.2.map V.str)])).set i (V.agg [V.int .i64 m,V.int .i64 (m+1),V.bool (decide (Int.tmod (m+1+1) 3=0)),V.sl (x3.map V.str)])=(cur.set i (m,m+1,decide (Int.tmod (m+1+1) 3=0),x3)).map (fun t:TI=>V.agg [V.int .i64 t.1,V.int .i64 t.2.1,V.bool t.2.2.1,V.sl (t.2.2.2.map V.str)]):=by have q:=List.map_set (f:=(fun t:TI=>V.agg [V.int .i64 t.1,V.int .i64 t.2.1,V.bool t.2.2.1,V.sl (t.2.2.2.map V.str)])) (l:=cur) (i:=i) (a:=(m,m+1,decide (Int.tmod (m+1+1) 3=0),x3));exact q.symm
   have hc1:(cur.set i (m,m+1,decide (Int.tmod (m+1+1) 3=0),x3))[i]? =some (m,m+1,decide (Int.tmod (m+1+1) 3=0),x3):=List.getElem?_set_self (by omega)
   have hrow:=f6x hc1
   simp only [] at hrow
   have hoc:=b3f (pre:=(fun t:TI=>[V.int .i64 t.1,V.int .i64 t.2.1,V.bool t.2.2.1])) (sl:=(fun t:TI=>t.2.2.2)) (n:=3) (cur.set i (m,m+1,decide (Int.tmod (m+1+1) 3=0),x3)) 1
   have hcl1:(cur.set i (m,m+1,decide (Int.tmod (m+1+1) 3=0),x3)).length=ll.length:=by rw [List.length_set,hL]
   have hSd:=Sd.mk (fun c=>d0q c 1)
   rcases Bool.eq_false_or_eq_true x3.isEmpty with he | he
   ·skip
    have hl0:x3=[]:=List.isEmpty_iff.1 he
    have hrv:c53 (1+4 * i+3) x3=.sl []:=by rw [hl0];rfl
    refine zn [0,1,5] ⟨?_⟩;refine b0c ?_;intro Q9 n9 e9 r9;refine b0g ?_;intro Q10 n10 x10 e10 r10
    have F:=Fc.mk (ai hkd (ai hclen (ai (gdm hcx) (ai hsm (ai hrow (ai hoc (ai hcl1 (ai @b76 (ai hlt (ai @List.length_set.{0} (ai @List.set_set.{0} hrv)))))))))))
    refine yR [0,1,5] ⟨?_⟩;refine yR [0,1,5] ⟨?_⟩;refine yR [0,1,5] ⟨?_⟩;refine yR [0,1,5] ⟨?_⟩;refine yR [0,1,5] ⟨?_⟩;refine b0c ?_;intro Q16 n16 e16 r16;refine yV ⟨?_⟩
    apply n16
    ·apply b1i (b0f [0,1,5] _)
     simp only [b0s,b0k,b0h,b0i,b0n,Nat.reduceEqDiff,reduceIte]
     exact b68 (f:=V.str) 0 ((cur.set i (m,m+1,decide (Int.tmod (m+1+1) 3=0),x3)).map (fun t:TI=>V.agg [V.int .i64 t.1,V.int .i64 t.2.1,V.bool t.2.2.1,V.sl (t.2.2.2.map V.str)])) (b3c (fun t:TI=>[V.int .i64 t.1,V.int .i64 t.2.1,V.bool t.2.2.1]) (fun t:TI=>t.2.2.2) 3 1 (cur.set i (m,m+1,decide (Int.tmod (m+1+1) 3=0),x3))) ((cur.set i (m,m+1,decide (Int.tmod (m+1+1) 3=0),x3)).flatMap (b83 (fun t:TI=>[V.int .i64 t.1,V.int .i64 t.2.1,V.bool t.2.2.1]) (fun t:TI=>t.2.2.2))) .deep rfl (c3p _) (c3s _ 1) (by simp [b3f]) f7h (b4g c50 _) (.inr rfl) rfl (fun _=>rfl)
    try simp only [b1r,b1y,Nat.reduceEqDiff,reduceIte,List.set_cons_zero,List.set_cons_succ]
    refine b4c ?_;intro K18 k18;refine f6m ⟨?_⟩;refine b5v ?_;intro K k
    simp only [zE,zM,b03,b0w,b0m,Nat.reduceEqDiff,reduceIte,Nat.reduceLT,implies_true,forall_const,reduceCtorEq,V.ofValue,V.ofScalar,V.un,V.gd,b1k,b3s,b4p,Tryz.underlying3,Ty.c3,Ty.a3,Ty.b3,Ty.s3,Tryz.underlying9,Ty.c9,Ty.a9,Ty.b9,Ty.s9,Tryz.underlying51,Ty.c51,Ty.a51,Ty.b51,Ty.s51]
    repeat (refine ai (by first | rfl | (intros;simp_all;done)) ?_)
    first | refine b4x _ (b97 x3 (m+1+1+1) hll (by omega)) (by first | rfl | (simp only [b1l,b15,b1g,b06,idx,b1j,List.getElem?_cons_zero,List.getElem?_cons_succ,Option.bind_some,Option.map_some,Blk.row,b0v,b09,b1d,b1b,b1c,b1e,cond_true,List.map_take];done) | (simp [b1l,b15,b1g,b06,idx,b1j,Blk.row,b0v,b09,b1d,b1b,b1c,b1e,Nat.beq_refl];done)) hO ⟨by simp [Blk.kindIs,b0v,b09],by simp⟩ (by first | exact .inl rfl | exact .inr (by simp [Blk.kindIs])) ⟨rfl,by simp [Blk.kindIs,b2g,b44]⟩ ?_ | refine b4a (c5f (m+1+1+1)) (by first | rfl | (simp only [b1l,b15,b1g,b06,idx,b1j,List.getElem?_cons_zero,List.getElem?_cons_succ,Option.bind_some,Option.map_some,Blk.row,b0v,b09,b1d,b1b,b1c,b1e,cond_true,List.map_take];done) | (simp [b1l,b15,b1g,b06,idx,b1j,Blk.row,b0v,b09,b1d,b1b,b1c,b1e,Nat.beq_refl];done)) (by first | exact .inl ⟨rfl,by simp [Blk.kindIs,b2g,b44]⟩ | exact .inr (by simp [V.cold])) ?_
    refine k _ ?_;clear k K
    simp only [zY,zW,b0m,Nat.reduceEqDiff,reduceIte,b7f,c8k,V.ren,V.renL,List.set_cons_zero,List.set_cons_succ,Nat.reduceAdd]
    refine b30 ⟨?_⟩;refine k18 _ ?_;refine n10 _ ?_
    apply n9
    ·apply b1i (b0f [0,1,5] _)
     simp only [b0s,b0k,b0h,b0i,b0n,Nat.reduceEqDiff,reduceIte]
     exact b6j (A:=[.arr (b3c (fun t:TI=>[V.int .i64 t.1,V.int .i64 t.2.1,V.bool t.2.2.1]) (fun t:TI=>t.2.2.2) 3 1 (cur.set i (m,m+1,decide (Int.tmod (m+1+1) 3=0),x3))) .mix]) 0 ((cur.set i (m,m+1,decide (Int.tmod (m+1+1) 3=0),x3)).map (fun t:TI=>V.agg [V.int .i64 t.1,V.int .i64 t.2.1,V.bool t.2.2.1,V.sl (t.2.2.2.map V.str)])) (b3c (fun t:TI=>[V.int .i64 t.1,V.int .i64 t.2.1,V.bool t.2.2.1]) (fun t:TI=>t.2.2.2) 3 1 (cur.set i (m,m+1,decide (Int.tmod (m+1+1) 3=0),x3))) ((cur.set i (m,m+1,decide (Int.tmod (m+1+1) 3=0),x3)).flatMap (b83 (fun t:TI=>[V.int .i64 t.1,V.int .i64 t.2.1,V.bool t.2.2.1]) (fun t:TI=>t.2.2.2))) rfl rfl (c3p _) (c3s _ 1) (by simp [b3f]) f49 (b4g c50 _)
    try simp only [b1r,b1y,Nat.reduceEqDiff,reduceIte,List.set_cons_zero,List.set_cons_succ]
    refine yV ⟨?_⟩;refine n5 _ (i+1,m+1+1+1,cur.set i (m,m+1,decide (Int.tmod (m+1+1) 3=0),x3)) ?_ ?_ ?_
    ·refine b0b [0,1,5] [0] ⟨?_⟩
     first | (simp only [hkd];rfl) | trace_state
    ·exact ⟨hlt,by show 0≤m+1+1+1;omega,by show (cur.set i _).length=_;rw [List.length_set];exact hL,by subst hl0;show m+1+1+1+b1q (ll.drop (i+1))=_;rw [←hK,htd];(try simp);omega,by show (cur.set i _).drop (i+1)=_;rw [List.drop_set_of_lt (by omega)];have h:=congrArg (List.drop 1) hD;simpa [List.drop_drop,Nat.add_comm] using h,by subst hl0;show (cur.set i _).take (i+1)++b1m (m+1+1+1) _=_;rw [←hM,b0r hx,b1m,b6f (by omega)];simp [b3t,b5f]⟩
    ·show _ < _;show ll.length - (i+1) < ll.length - i;omega
   ·skip
    have hrv:c53 (1+4 * i+3) x3=.ref (1+4 * i+3):=by rw [c53,he];rfl
    have hO:=f57 (b:=.arr (b3c (fun t:TI=>[V.int .i64 t.1,V.int .i64 t.2.1,V.bool t.2.2.1]) (fun t:TI=>t.2.2.2) 3 1 (cur.set i (m,m+1,decide (Int.tmod (m+1+1) 3=0),x3))) .mix) hc1 he
    refine zn [0,1,5] ⟨?_⟩;refine b0c ?_;intro Q20 n20 e20 r20;refine b0g ?_;intro Q21 n21 x21 e21 r21
    have F:=Fc.mk (ai hkd (ai hclen (ai (gdm hcx) (ai hsm (ai hrow (ai hoc (ai hcl1 (ai @b76 (ai hlt (ai @List.length_set.{0} (ai @List.set_set.{0} hrv)))))))))))
    refine yR [0,1,5] ⟨?_⟩;refine yR [0,1,5] ⟨?_⟩;refine yR [0,1,5] ⟨?_⟩;refine yR [0,1,5] ⟨?_⟩;refine yR [0,1,5] ⟨?_⟩;refine b0c ?_;intro Q27 n27 e27 r27;refine yV ⟨?_⟩
    apply n27
    ·apply b1i (b0f [0,1,5] _)
     simp only [b0s,b0k,b0h,b0i,b0n,Nat.reduceEqDiff,reduceIte]
     exact b68 (f:=V.str) 0 ((cur.set i (m,m+1,decide (Int.tmod (m+1+1) 3=0),x3)).map (fun t:TI=>V.agg [V.int .i64 t.1,V.int .i64 t.2.1,V.bool t.2.2.1,V.sl (t.2.2.2.map V.str)])) (b3c (fun t:TI=>[V.int .i64 t.1,V.int .i64 t.2.1,V.bool t.2.2.1]) (fun t:TI=>t.2.2.2) 3 1 (cur.set i (m,m+1,decide (Int.tmod (m+1+1) 3=0),x3))) ((cur.set i (m,m+1,decide (Int.tmod (m+1+1) 3=0),x3)).flatMap (b83 (fun t:TI=>[V.int .i64 t.1,V.int .i64 t.2.1,V.bool t.2.2.1]) (fun t:TI=>t.2.2.2))) .deep rfl (c3p _) (c3s _ 1) (by simp [b3f]) f7h (b4g c50 _) (.inr rfl) rfl (fun _=>rfl)
    try simp only [b1r,b1y,Nat.reduceEqDiff,reduceIte,List.set_cons_zero,List.set_cons_succ]
    refine b4c ?_;intro K29 k29;refine f6m ⟨?_⟩;refine b5v ?_;intro K k
    simp only [zE,zM,b03,b0w,b0m,Nat.reduceEqDiff,reduceIte,Nat.reduceLT,implies_true,forall_const,reduceCtorEq,V.ofValue,V.ofScalar,V.un,V.gd,b1k,b3s,b4p,Tryz.underlying3,Ty.c3,Ty.a3,Ty.b3,Ty.s3,Tryz.underlying9,Ty.c9,Ty.a9,Ty.b9,Ty.s9,Tryz.underlying51,Ty.c51,Ty.a51,Ty.b51,Ty.s51]
    repeat (refine ai (by first | rfl | (intros;simp_all;done)) ?_)
    first | refine b4x _ (b97 x3 (m+1+1+1) hll (by omega)) (by first | rfl | (simp only [b1l,b15,b1g,b06,idx,b1j,List.getElem?_cons_zero,List.getElem?_cons_succ,Option.bind_some,Option.map_some,Blk.row,b0v,b09,b1d,b1b,b1c,b1e,cond_true,List.map_take];done) | (simp [b1l,b15,b1g,b06,idx,b1j,Blk.row,b0v,b09,b1d,b1b,b1c,b1e,Nat.beq_refl];done)) hO ⟨by simp [Blk.kindIs,b0v,b09],by simp⟩ (by first | exact .inl rfl | exact .inr (by simp [Blk.kindIs])) ⟨rfl,by simp [Blk.kindIs,b2g,b44]⟩ ?_ | refine b4a (c5f (m+1+1+1)) (by first | rfl | (simp only [b1l,b15,b1g,b06,idx,b1j,List.getElem?_cons_zero,List.getElem?_cons_succ,Option.bind_some,Option.map_some,Blk.row,b0v,b09,b1d,b1b,b1c,b1e,cond_true,List.map_take];done) | (simp [b1l,b15,b1g,b06,idx,b1j,Blk.row,b0v,b09,b1d,b1b,b1c,b1e,Nat.beq_refl];done)) (by first | exact .inl ⟨rfl,by simp [Blk.kindIs,b2g,b44]⟩ | exact .inr (by simp [V.cold])) ?_
    refine k _ ?_;clear k K
    simp only [zY,zW,b0m,Nat.reduceEqDiff,reduceIte,b7f,c8k,V.ren,V.renL,List.set_cons_zero,List.set_cons_succ,Nat.reduceAdd]
    refine b30 ⟨?_⟩;refine k29 _ ?_;refine n21 _ ?_
    apply n20
    ·apply b1i (b0f [0,1,5] _)
     simp only [b0s,b0k,b0h,b0i,b0n,Nat.reduceEqDiff,reduceIte]
     have hmne:(b3t (m+1+1+1) x3.length).isEmpty=false:=by cases x3 with | nil=>cases he | cons x l=>simp [b19,b3t,b5f,List.range_succ]
     rw [f4r (t:=(m,m+1,decide (Int.tmod (m+1+1) 3=0),x3)) (u:=(m,m+1,decide (Int.tmod (m+1+1) 3=0),b3t (m+1+1+1) x3.length)) (by omega) hmne,f6e (cur:=cur) (i:=i) (t:=(m,m+1,decide (Int.tmod (m+1+1) 3=0),x3)) (u:=(m,m+1,decide (Int.tmod (m+1+1) 3=0),b3t (m+1+1+1) x3.length)) rfl (by rw [he,hmne])]
     exact b6j (A:=[.arr (b3c (fun t:TI=>[V.int .i64 t.1,V.int .i64 t.2.1,V.bool t.2.2.1]) (fun t:TI=>t.2.2.2) 3 1 (cur.set i (m,m+1,decide (Int.tmod (m+1+1) 3=0),b3t (m+1+1+1) x3.length))) .mix]) 0 ((cur.set i (m,m+1,decide (Int.tmod (m+1+1) 3=0),b3t (m+1+1+1) x3.length)).map (fun t:TI=>V.agg [V.int .i64 t.1,V.int .i64 t.2.1,V.bool t.2.2.1,V.sl (t.2.2.2.map V.str)])) (b3c (fun t:TI=>[V.int .i64 t.1,V.int .i64 t.2.1,V.bool t.2.2.1]) (fun t:TI=>t.2.2.2) 3 1 (cur.set i (m,m+1,decide (Int.tmod (m+1+1) 3=0),b3t (m+1+1+1) x3.length))) ((cur.set i (m,m+1,decide (Int.tmod (m+1+1) 3=0),b3t (m+1+1+1) x3.length)).flatMap (b83 (fun t:TI=>[V.int .i64 t.1,V.int .i64 t.2.1,V.bool t.2.2.1]) (fun t:TI=>t.2.2.2))) rfl rfl (c3p _) (c3s _ 1) (by simp [b3f]) f49 (b4g c50 _)
    try simp only [b1r,b1y,Nat.reduceEqDiff,reduceIte,List.set_cons_zero,List.set_cons_succ]
    refine yV ⟨?_⟩;refine n5 _ (i+1,m+1+1+1+x3.length,cur.set i (m,m+1,decide (Int.tmod (m+1+1) 3=0),b3t (m+1+1+1) x3.length)) ?_ ?_ ?_
    ·refine b0b [0,1,5] [0] ⟨?_⟩
     first | (simp only [hkd];rfl) | trace_state
    ·exact ⟨hlt,by show 0≤m+1+1+1+(x3.length:Int);omega,by show (cur.set i _).length=_;rw [List.length_set];exact hL,by show m+1+1+1+(x3.length:Int)+b1q (ll.drop (i+1))=_;rw [←hK,htd];(try simp);omega,by show (cur.set i _).drop (i+1)=_;rw [List.drop_set_of_lt (by omega)];have h:=congrArg (List.drop 1) hD;simpa [List.drop_drop,Nat.add_comm] using h,by show (cur.set i _).take (i+1)++b1m (m+1+1+1+(x3.length:Int)) _=_;rw [←hM,b0r hx,b1m,b6f (by omega)]⟩
    ·show _ < _;show ll.length - (i+1) < ll.length - i;omega
  ·intro hc0
   refine zn [1] ⟨?_⟩;refine yR [4] ⟨?_⟩;refine zr ⟨?_⟩
   have hcur:cur=b1m kk ll:=by have h:=hM;rw [List.drop_of_length_le (by omega),b1m,List.append_nil,List.take_of_length_le (by omega)] at h;exact h
   have hmk:m=kk+b1q ll:=by rw [←hK,c0d (by omega)];omega
   rw [←hcur,←hmk]
   exact b4f rfl (by simp) rfl rfl (by simp [Blk.kindIs,b2g]) (.inl rfl)
set_option maxRecDepth 8000 in
theorem c4h (ll:List TI) (kk:Int) (hl:ll.length≤1048576) (hls:∀t∈ll,t.2.2.2.length≤1048576) (hk:0≤kk∧kk≤10000000000000):Con Tryz.prog 80 [.sl ((b1m kk ll).map (fun t:TI=>V.agg [V.int .i64 t.1,V.int .i64 t.2.1,V.bool t.2.2.1,V.sl (t.2.2.2.map V.str)])),.int .i64 kk] [] (.int .i64 (kk+b1q ll)) []:=by
 refine b05 [.tmp 4] [] Tryz.func80 rfl rfl rfl (by simp [Tryz.ntmps80]) ?_
 intro Q0 n0 r0
 simp only [Tryz.ntmps80,b0l,Nat.reduceAdd]
 have T:=Tys.mk (ai Ty.t3 (ai Ty.t4 (ai Ty.t9 (ai Ty.t33 (ai Ty.t51 Ty.t99)))))
 have F:=Fc.mk True.intro
 refine yR [0,1] ⟨?_⟩;refine b0c ?_;intros;refine yR [0,1,5] ⟨?_⟩;refine b0g ?_;intros;refine b08 (fun p=>⟨[(0,.sl ((b1m kk ll).map (fun t:TI=>V.agg [V.int .i64 t.1,V.int .i64 t.2.1,V.bool t.2.2.1,V.sl (t.2.2.2.map V.str)]))),(1,.int .i64 p.2),(5,.int .i64 (Nat.cast p.1))],[],false,51,0⟩) (fun p=>p.1≤ll.length∧0≤p.2∧p.2+b1q (ll.drop p.1)=kk+b1q ll∧(b1m kk ll).drop p.1=b1m p.2 (ll.drop p.1)) (fun p=>ll.length - p.1) ((0,kk):Nat×Int) ?_ ?_ ?_
 ·refine b1a [0,1,5] ?_
  simp only [b0s,b0k,b0h,b0i,b0n,Nat.reduceEqDiff,reduceIte]
  rfl
 ·exact ⟨Nat.zero_le _,hk.1,rfl,rfl⟩
 ·rintro ⟨i,m⟩ hok5 Q5 n5 e5 r5
  obtain ⟨hi1,hm0,hK,hD⟩:=hok5
  simp only [] at hi1 hm0 hK hD⊢
  refine b0c ?_;intros;refine yR [0,1,5,9] ⟨?_⟩;refine b0d _ rfl ?_ ?_
  ·intro hc0
   rw [b4v] at hc0
   have hlt:i < ll.length:=by omega
   obtain ⟨⟨x0,x1,x2,x3⟩,hx⟩:∃x,ll[i]? =some x:=⟨_,List.getElem?_eq_getElem hlt⟩
   have hll:=hls _ (List.mem_of_getElem? hx)
   have htd:=b9w hx
   simp only [] at hll htd
   have hpos:=b3h (ll.drop (i+1))
   have htt:=b3w hls
   have hD2:=hD
   rw [b0r hx,b1m] at hD2
   simp only [] at hD2
   have hg:(b1m kk ll)[i]? =some (m,m+1,decide (Int.tmod (m+1+1) 3=0),b3t (m+1+1+1) x3.length):=by have h:=congrArg (fun z=>z[0]?) hD2;simpa [List.getElem?_drop] using h
   refine zn [0,1,5] ⟨?_⟩;refine b0c ?_;intros;refine b0g ?_;intros;refine b0c ?_;intros
   have F:=Fc.mk (ai (gdm hg) @b4v)
   refine yR [0,1,5,18] ⟨?_⟩;refine b1z _ rfl ?_ ?_
   ·intro hc1
    exfalso;first | (simp at hc1;done) | (simp at hc1;omega)
   ·intro hc1
    try simp only [zC,reduceCtorEq] at hc1
    refine zn [0,1,5] ⟨?_⟩;refine yR [0,1,5] ⟨?_⟩;refine b0c ?_;intros;refine yR [0,1,5,27] ⟨?_⟩;refine b1z _ rfl ?_ ?_
    ·intro hc2
     exfalso;first | (simp at hc2;done) | (simp at hc2;omega)
    ·intro hc2
     try simp only [zC,reduceCtorEq] at hc2
     refine zn [0,1,5] ⟨?_⟩;refine yR [0,1,5] ⟨?_⟩;refine b0c ?_;intros;refine yR [0,1,5,38] ⟨?_⟩;refine b1z _ rfl ?_ ?_
     ·intro hc3
      exfalso;first | (simp at hc3;done) | (simp at hc3;omega)
     ·intro hc3
      try simp only [zC,reduceCtorEq] at hc3
      refine zn [0,1,5] ⟨?_⟩;refine yR [0,1,5] ⟨?_⟩;refine yRc [0,1,5] (c7x (m+1+1+1) x3.length hll (by omega)) ⟨?_⟩;refine yR [0,1,5,49] ⟨?_⟩;refine b1z _ rfl ?_ ?_
      ·intro hc4
       exfalso;first | (simp at hc4;done) | (simp at hc4;omega)
      ·intro hc4
       try simp only [zC,reduceCtorEq] at hc4
       refine zn [0,1,5] ⟨?_⟩;refine yV ⟨?_⟩;refine n5 _ (i+1,m+1+1+1+x3.length) ?_ ?_ ?_
       ·refine b1a [0,1,5] ?_
        simp only [b0s,b0k,b0h,b0i,b0n,Nat.reduceEqDiff,reduceIte]
        rfl
       ·exact ⟨hlt,by show 0≤m+1+1+1+(x3.length:Int);omega,by show m+1+1+1+(x3.length:Int)+b1q (ll.drop (i+1))=_;rw [←hK,htd];omega,by show (b1m kk ll).drop (i+1)=b1m (m+1+1+1+x3.length) _;have h:=congrArg (List.drop 1) hD2;simpa [List.drop_drop,Nat.add_comm] using h⟩
       ·show _ < _;show ll.length - (i+1) < ll.length - i;omega
  ·intro hc0
   rw [b4v] at hc0
   refine zn [1] ⟨?_⟩;refine yR [4] ⟨?_⟩;refine zr ⟨?_⟩
   exact b0a rfl (by rw [←hK,c0d (by omega)];congr 1;omega) (.inl rfl)
theorem c0u (fl:List TA) (ins:List TI) (ws:List TW) (kk:Int) (hl:fl.length≤1048576) (hil:ins.length≤1048576) (hin:∀x∈ins,x.2.2.2.length≤1048576) (hwl:ws.length≤1048576) (hwn:∀x∈ws,x.2.length≤1048576) (hk:0≤kk∧kk≤5000000000000):Con Tryz.prog 17 [.agg [.ref 0,.ref 1,.ref 2],.int .i64 kk] [.arr (fl.map (fun t:TA=>V.agg [V.str t.1,V.int .i64 t.2.1,V.int .i64 t.2.2.1,V.int .i64 t.2.2.2.1,V.int .i64 t.2.2.2.2])) .flat,.arr (ins.map (fun t:TI=>V.agg [V.int .i64 t.1,V.int .i64 t.2.1,V.bool t.2.2.1,V.sl (t.2.2.2.map V.str)])) (b1v ins.length),.arr (ws.map (fun t:TW=>V.agg [V.int .i64 t.1,V.sl (t.2.map (V.int .i64))])) (b1v ws.length)] (.int .i64 (((kk+5 * fl.length)+b1q ins)+b3m ws)) [.arr ((b2t kk fl.length).map (fun t:TA=>V.agg [V.str t.1,V.int .i64 t.2.1,V.int .i64 t.2.2.1,V.int .i64 t.2.2.2.1,V.int .i64 t.2.2.2.2])) .flat,.arr ((b1m (kk+5 * fl.length) ins).map (fun t:TI=>V.agg [V.int .i64 t.1,V.int .i64 t.2.1,V.bool t.2.2.1,V.sl (t.2.2.2.map V.str)])) (b1v ins.length),.arr ((b2d ((kk+5 * fl.length)+b1q ins) ws).map (fun t:TW=>V.agg [V.int .i64 t.1,V.sl (t.2.map (V.int .i64))])) (b1v ws.length)]:=by
 have hti:=b3w hin
 have htw:=b6h hwn
 have hpi:=b3h ins
 have hpw:=b49 ws
 refine b05 [.tmp 4] [(76,[0]),(77,[0]),(78,[0])] Tryz.func17 rfl rfl rfl (by simp [Tryz.ntmps17]) ?_
 intro Q0 n0 r0
 simp only [Tryz.ntmps17,b0l,Nat.reduceAdd]
 have T:=Tys.mk (ai Ty.t3 (ai Ty.t4 (ai Ty.t9 (ai Ty.t32 (ai Ty.t33 (ai Ty.t34 (ai Ty.t36 (ai Ty.t51 (ai Ty.t75 (ai Ty.t96 (ai Ty.t99 Ty.t102)))))))))))
 have F:=Fc.mk True.intro
 refine yR [1,2] ⟨?_⟩;refine yRl [1,2] (c2r fl kk hl (by omega)) ⟨?_⟩;refine yRl [1,2] (c4e ins (kk+5 * fl.length) hil hin (by omega)) ⟨?_⟩;refine yRl [1] (d1f ws ((kk+5 * fl.length)+b1q ins) hwl hwn (by omega)) ⟨?_⟩;refine yR [4] ⟨?_⟩;refine zr ⟨?_⟩
 exact b4f rfl (by simp) rfl (by simp) (by simp [Blk.kindIs,b2g]) (.inl rfl)
theorem c6m (fl:List TA) (ins:List TI) (ws:List TW) (kk:Int) (hl:fl.length≤1048576) (hil:ins.length≤1048576) (hin:∀x∈ins,x.2.2.2.length≤1048576) (hwl:ws.length≤1048576) (hwn:∀x∈ws,x.2.length≤1048576) (hk:0≤kk∧kk≤5000000000000):Con Tryz.prog 18 [.agg [.sl ((b2t kk fl.length).map (fun t:TA=>V.agg [V.str t.1,V.int .i64 t.2.1,V.int .i64 t.2.2.1,V.int .i64 t.2.2.2.1,V.int .i64 t.2.2.2.2])),.sl ((b1m (kk+5 * fl.length) ins).map (fun t:TI=>V.agg [V.int .i64 t.1,V.int .i64 t.2.1,V.bool t.2.2.1,V.sl (t.2.2.2.map V.str)])),.sl ((b2d ((kk+5 * fl.length)+b1q ins) ws).map (fun t:TW=>V.agg [V.int .i64 t.1,V.sl (t.2.map (V.int .i64))]))],.int .i64 kk] [] (.int .i64 (((kk+5 * fl.length)+b1q ins)+b3m ws)) []:=by
 have hti:=b3w hin
 have htw:=b6h hwn
 have hpi:=b3h ins
 have hpw:=b49 ws
 refine b05 [.tmp 4] [] Tryz.func18 rfl rfl rfl (by simp [Tryz.ntmps18]) ?_
 intro Q0 n0 r0
 simp only [Tryz.ntmps18,b0l,Nat.reduceAdd]
 have T:=Tys.mk (ai Ty.t3 (ai Ty.t4 (ai Ty.t9 (ai Ty.t32 (ai Ty.t33 (ai Ty.t34 (ai Ty.t36 (ai Ty.t51 (ai Ty.t75 (ai Ty.t96 (ai Ty.t99 Ty.t102)))))))))))
 have F:=Fc.mk True.intro
 refine yR [1,2] ⟨?_⟩;refine yRc [1,2] (c2p kk fl.length hl (by omega)) ⟨?_⟩;refine b0c ?_;intros;refine yR [1,2,10] ⟨?_⟩;refine b1z _ rfl ?_ ?_
 ·intro hc0
  exfalso;first | (simp at hc0;done) | (simp at hc0;omega)
 ·intro hc0
  try simp only [zC,reduceCtorEq] at hc0
  refine zn [1,2] ⟨?_⟩;refine yRc [1,2] (c4h ins (kk+5 * fl.length) hil hin (by omega)) ⟨?_⟩;refine b0c ?_;intros;refine yR [1,2,16] ⟨?_⟩;refine b1z _ rfl ?_ ?_
  ·intro hc1
   exfalso;first | (simp at hc1;done) | (simp at hc1;omega)
  ·intro hc1
   try simp only [zC,reduceCtorEq] at hc1
   refine zn [1,2] ⟨?_⟩;refine yRc [1] (d1e ws ((kk+5 * fl.length)+b1q ins) hwl hwn (by omega)) ⟨?_⟩;refine b0c ?_;intros;refine yR [1,22] ⟨?_⟩;refine b1z _ rfl ?_ ?_
   ·intro hc2
    exfalso;first | (simp at hc2;done) | (simp at hc2;omega)
   ·intro hc2
    try simp only [zC,reduceCtorEq] at hc2
    refine zn [1] ⟨?_⟩;refine yR [4] ⟨?_⟩;refine zr ⟨?_⟩
    exact b0a rfl rfl (.inl rfl)
def b3l {α:Type} (b:Bool) (l:List α):List α:=bif b then l else []
theorem b6i {α:Type} (l:List α):b3l true l=l:=rfl
theorem b7b {α:Type} (l:List α):b3l false l=[]:=rfl
theorem f2c {α:Type} {p:α→Bool} {l:List α} (h:0≤b20 p 0 l):∃(k:Nat) (x:α),l[k]? =some x∧p x=true∧b20 p 0 l=(k:Int):=by
  obtain ⟨k,_,h2,_,x,h4,h5⟩:=c3y (p:=p) (l:=l) (i:=0) (by omega)
  exact ⟨k,x,h4,h5,by rw [h2,Nat.zero_add]⟩
theorem f4l {fl:List TA} {s:ByteArray} (h:0≤b5a fl s):∃(k:Nat) (x:TA),fl[k]? =some x∧x.1=s∧b5a fl s=(k:Int):=by
  rcases d41 fl s with q | ⟨k,x,h1,h2,h3⟩
  · omega
  · exact ⟨k,x,h2,h3,h1⟩
structure CtlFacts (n:Int) (ss:List TS) (fl:List TA) (ins:List TI) (ws:List TW):Prop where
  ds:DsFacts n ss fl
  town:b8o n ss=true
  ins8:c2g ins=true
  node:∀x∈ins,0≤x.2.1∧x.2.1 < n
  names:∀x∈ins,∀s∈x.2.2.2,0≤b5a fl s
  busy:∀a∈fl,c3o a=decide (0≤c74 ins a.1)
  ws8:ws.length≤8
  want:∀w∈ws,0≤b5y ins w.1∧b3b w.2=true
theorem f03 {n:Int} {ss:List TS} {fl:List TA} {ins:List TI} {ws:List TW} (h:c2h n ss fl ins ws=true):CtlFacts n ss fl ins ws:=by
  simp only [c2h,d1y,Bool.and_eq_true,List.all_eq_true,decide_eq_true_eq,Bool.not_eq_true',decide_eq_false_iff_not,List.mem_range] at h
  obtain ⟨⟨⟨⟨⟨h1,h2⟩,h3⟩,h4⟩,h5⟩,h6⟩:=h
  have hd:=d61 h1
  refine ⟨hd,?_,h2,fun x hx=> ?_,fun x hx s hs=> ?_,fun a ha=> ?_,by omega,fun w hw=> ?_⟩
  · simp only [dsB,Bool.and_eq_true] at h1;exact h1.1.1
  · have:=h4 x hx
    rw [inP,Bool.and_eq_true,b5r hd.hn,Bool.and_eq_true,decide_eq_true_eq,decide_eq_true_eq] at this
    exact this.1
  · have:=h4 x hx
    rw [inP,Bool.and_eq_true,List.all_eq_true] at this
    simpa using this.2 s hs
  · have:=h5 a ha
    rw [b5d] at this
    simpa using this
  · obtain ⟨i,hi,rfl⟩:=List.getElem_of_mem hw
    have:=h6 i hi
    rw [b5w,List.getElem?_eq_getElem hi] at this
    simp only [Bool.and_eq_true,decide_eq_true_eq] at this
    exact ⟨this.1.1,this.1.2⟩
theorem d1u {n:Int} {ss:List TS} {fl:List TA} {ins:List TI} {ws:List TW} (h:c2h n ss fl ins ws=true):b8o n ss=true:=(f03 h).town
def stA (fl:List TA) (s:ByteArray):Int:=match fl[(b5a fl s).toNat]? with | some a=>a.2.2.2.2 | none=>0
theorem b3n {α β:Type} {f:α→β} {l:List α} {i:Nat} {x:α} (h:l[i]? =some x):(l.take (i+1)).map f=(l.take i).map f++[f x]:=by
  rw [List.take_add_one,h,Option.toList,List.map_append];rfl
end Go.Proofs.YtaefoaghpehbpaaGreat
