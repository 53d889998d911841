/- What functions compute. No condition. -/
import Derived.Test.YtaefoaghpehbpaaGreatDoorUz
import Derived.Test.YtaefoaghpehbpaaGreatDoorUty
import Derived.Test.YtaefoaghpehbpaaGreatDoorUmG
import Derived.Test.YtaefoaghpehbpaaGreatDoorX11
import Derived.Test.YtaefoaghpehbpaaGreatDoorX1
import Derived.Test.YtaefoaghpehbpaaGreatDoorX3
import Derived.Test.YtaefoaghpehbpaaGreatDoorX12
import Derived.Test.YtaefoaghpehbpaaGreatDoorX9
import Derived.Test.YtaefoaghpehbpaaGreatDoorX6
import Derived.Test.YtaefoaghpehbpaaGreatDoorX8
import Derived.Test.YtaefoaghpehbpaaGreatDoorX5
import Derived.Test.YtaefoaghpehbpaaGreatDoorX4
import Derived.Test.YtaefoaghpehbpaaGreatDoorShelf
set_option linter.unusedSimpArgs false
set_option linter.unusedVariables false
set_option linter.defProp false
namespace Go.Proofs.YtaefoaghpehbpaaGreatDoor
open Go Go.Vm
def markIncidents:Int→List (Int×Int×Bool×List ByteArray)→List (Int×Int×Bool×List ByteArray)
  | _,[]=>[]
  | k,t::l=>(k,k+1,decide (Int.tmod (k+1+1) 3=0),markStr (k+1+1+1) t.2.2.2.length)::markIncidents (k+1+1+1+t.2.2.2.length) l
def totIncident:List (Int×Int×Bool×List ByteArray)→Int
  | []=>0
  | t::l=>3+t.2.2.2.length+totIncident l
theorem totIncident_pos:∀l:List (Int×Int×Bool×List ByteArray),0≤totIncident l
  | []=>Int.le_refl _
  | t::l=>by have:=totIncident_pos l;rw [totIncident];omega
theorem totIncident_le:∀{l:List (Int×Int×Bool×List ByteArray)},(∀t∈l,t.2.2.2.length≤1048576)→totIncident l≤1048580 * l.length
  | [],_=>Int.le_refl _
  | t::l,h=>by
    have h1:=totIncident_le (l:=l) fun x hx=>h x (List.mem_cons_of_mem _ hx)
    have h2:=h t (List.mem_cons_self ..)
    rw [totIncident,List.length_cons];omega
theorem totIncident_drop {l:List (Int×Int×Bool×List ByteArray)} {i:Nat} {t:Int×Int×Bool×List ByteArray} (h:l[i]? =some t):totIncident (l.drop i)=3+t.2.2.2.length+totIncident (l.drop (i+1)):=by
  rw [getElem_drop_cons h,totIncident]
theorem totIncident_end {l:List (Int×Int×Bool×List ByteArray)} {i:Nat} (h:l.length≤i):totIncident (l.drop i)=0:=by
  rw [List.drop_of_length_le h];rfl
theorem totIncident_dropLe:∀(l:List (Int×Int×Bool×List ByteArray)) (i:Nat),totIncident (l.drop i)≤totIncident l
  | [],i=>by rw [List.drop_nil];omega
  | t::l,0=>by rw [List.drop_zero];omega
  | t::l,i+1=>by
    have h1:=totIncident_dropLe l i
    rw [List.drop_succ_cons,totIncident];omega
theorem markIncidents_len:∀(l:List (Int×Int×Bool×List ByteArray)) (k:Int),(markIncidents k l).length=l.length
  | [],_=>rfl
  | t::l,k=>by rw [markIncidents,List.length_cons,List.length_cons,markIncidents_len l]
theorem ic_get {cur:List (Int×Int×Bool×List ByteArray)} {i:Nat} {t:Int×Int×Bool×List ByteArray} (h:cur[i]? =some t):(openX (fun t:Int×Int×Bool×List ByteArray=>[V.int .i64 t.1,V.int .i64 t.2.1,V.bool t.2.2.1]) (fun t:Int×Int×Bool×List ByteArray=>t.2.2.2) 3 1 cur).getD i .any=V.agg [V.int .i64 t.1,V.int .i64 t.2.1,V.bool t.2.2.1,rowV (1+4 * i+3) t.2.2.2]:=by
  rw [List.getD_eq_getElem?_getD,openX_get h];rfl
theorem ic_same {cur:List (Int×Int×Bool×List ByteArray)} {i:Nat} {t u:Int×Int×Bool×List ByteArray} (h1:[V.int .i64 t.1,V.int .i64 t.2.1,V.bool t.2.2.1]=[V.int .i64 u.1,V.int .i64 u.2.1,V.bool u.2.2.1]) (h:t.2.2.2.isEmpty=u.2.2.2.isEmpty):(openX (fun t:Int×Int×Bool×List ByteArray=>[V.int .i64 t.1,V.int .i64 t.2.1,V.bool t.2.2.1]) (fun t:Int×Int×Bool×List ByteArray=>t.2.2.2) 3 1 (cur.set i t))=(openX (fun t:Int×Int×Bool×List ByteArray=>[V.int .i64 t.1,V.int .i64 t.2.1,V.bool t.2.2.1]) (fun t:Int×Int×Bool×List ByteArray=>t.2.2.2) 3 1 (cur.set i u)):=by
  rw [←openX_set (pre:=(fun t:Int×Int×Bool×List ByteArray=>[V.int .i64 t.1,V.int .i64 t.2.1,V.bool t.2.2.1])) (sl:=(fun t:Int×Int×Bool×List ByteArray=>t.2.2.2)) (n:=3) (t:=t),←openX_set (pre:=(fun t:Int×Int×Bool×List ByteArray=>[V.int .i64 t.1,V.int .i64 t.2.1,V.bool t.2.2.1])) (sl:=(fun t:Int×Int×Bool×List ByteArray=>t.2.2.2)) (n:=3) (t:=u),openE,openE,rowV,rowV,h1,h]
theorem ic_news {b:Blk} {cur:List (Int×Int×Bool×List ByteArray)} {i:Nat} {t:Int×Int×Bool×List ByteArray} (h:cur[i]? =some t) (hne:t.2.2.2.isEmpty=false):(b::(newsC V.str ((cur).flatMap (eltC (fun t:Int×Int×Bool×List ByteArray=>[V.int .i64 t.1,V.int .i64 t.2.1,V.bool t.2.2.1]) (fun t:Int×Int×Bool×List ByteArray=>t.2.2.2)))))[1+4 * i+3]? =some (.arr (t.2.2.2.map V.str) .flat):=by
  rw [show 1+4 * i+3=(4 * i+3)+1 by omega,List.getElem?_cons_succ,newsX_get (pre:=(fun t:Int×Int×Bool×List ByteArray=>[V.int .i64 t.1,V.int .i64 t.2.1,V.bool t.2.2.1])) (sl:=(fun t:Int×Int×Bool×List ByteArray=>t.2.2.2)) (n:=3) (fun _=>rfl) h]
  simp [rowB,hne]
theorem ic_cells:∀(l:List (Int×Int×Bool×List ByteArray)) (N:Nat),∀x∈(openX (fun t:Int×Int×Bool×List ByteArray=>[V.int .i64 t.1,V.int .i64 t.2.1,V.bool t.2.2.1]) (fun t:Int×Int×Bool×List ByteArray=>t.2.2.2) 3 N l),x.cells.length=4
  | [],_,x,h=>by cases h
  | t::l,N,x,h=>by
    rcases List.mem_cons.1 h with e | e
    · subst e;rfl
    · exact ic_cells l _ x e
theorem ic_sz {ll:List (Int×Int×Bool×List ByteArray)} {N:Nat}:∀n,(∀x∈ll.map (fun t:Int×Int×Bool×List ByteArray=>V.agg [V.int .i64 t.1,V.int .i64 t.2.1,V.bool t.2.2.1,V.sl (t.2.2.2.map V.str)]),x.cells.length=n)→∀x∈(openX (fun t:Int×Int×Bool×List ByteArray=>[V.int .i64 t.1,V.int .i64 t.2.1,V.bool t.2.2.1]) (fun t:Int×Int×Bool×List ByteArray=>t.2.2.2) 3 N ll),x.cells.length=n:=by
  intro n h x hx
  cases ll with
  | nil=>cases hx
  | cons t l=>
    rw [ic_cells _ _ x hx,←h _ (List.mem_cons_self ..)];rfl
theorem ic_sz2 {ll:List (Int×Int×Bool×List ByteArray)} {N:Nat}:∀n,(∀x∈(openX (fun t:Int×Int×Bool×List ByteArray=>[V.int .i64 t.1,V.int .i64 t.2.1,V.bool t.2.2.1]) (fun t:Int×Int×Bool×List ByteArray=>t.2.2.2) 3 N ll),x.cells.length=n)→∀x∈ll.map (fun t:Int×Int×Bool×List ByteArray=>V.agg [V.int .i64 t.1,V.int .i64 t.2.1,V.bool t.2.2.1,V.sl (t.2.2.2.map V.str)]),x.cells.length=n:=by
  intro n h x hx
  cases ll with
  | nil=>cases hx
  | cons t l=>
    have h1:=h _ (List.mem_cons_self ..)
    obtain ⟨u,_,rfl⟩:=List.mem_map.1 hx
    rw [←h1];rfl
theorem ic_closed (ll:List (Int×Int×Bool×List ByteArray)):(ll.map (fun t:Int×Int×Bool×List ByteArray=>V.agg [V.int .i64 t.1,V.int .i64 t.2.1,V.bool t.2.2.1,V.sl (t.2.2.2.map V.str)])).flatMap V.cells=(ll.flatMap (eltC (fun t:Int×Int×Bool×List ByteArray=>[V.int .i64 t.1,V.int .i64 t.2.1,V.bool t.2.2.1]) (fun t:Int×Int×Bool×List ByteArray=>t.2.2.2))).map (cellR V.str):=elt_closed (pre:=(fun t:Int×Int×Bool×List ByteArray=>[V.int .i64 t.1,V.int .i64 t.2.1,V.bool t.2.2.1])) (sl:=(fun t:Int×Int×Bool×List ByteArray=>t.2.2.2)) (f:=V.str) ll
theorem ic_opened (ll:List (Int×Int×Bool×List ByteArray)) (N:Nat):(openX (fun t:Int×Int×Bool×List ByteArray=>[V.int .i64 t.1,V.int .i64 t.2.1,V.bool t.2.2.1]) (fun t:Int×Int×Bool×List ByteArray=>t.2.2.2) 3 N ll).flatMap V.cells=openC N (ll.flatMap (eltC (fun t:Int×Int×Bool×List ByteArray=>[V.int .i64 t.1,V.int .i64 t.2.1,V.bool t.2.2.1]) (fun t:Int×Int×Bool×List ByteArray=>t.2.2.2))):=elt_opened (pre:=(fun t:Int×Int×Bool×List ByteArray=>[V.int .i64 t.1,V.int .i64 t.2.1,V.bool t.2.2.1])) (sl:=(fun t:Int×Int×Bool×List ByteArray=>t.2.2.2)) (n:=3) (fun _=>rfl) ll N
theorem ic_plain:∀t:Int×Int×Bool×List ByteArray,∀v∈(fun t:Int×Int×Bool×List ByteArray=>[V.int .i64 t.1,V.int .i64 t.2.1,V.bool t.2.2.1]) t,v.only (fun _=>false)=true∧v.noSl=true∧v.cells=[v]:=by
  intro t v hv
  simp only [List.mem_cons,List.not_mem_nil,or_false] at hv
  rcases hv with rfl | rfl | rfl<;>exact ⟨rfl,rfl,rfl⟩
theorem ic_news2 {cur:List (Int×Int×Bool×List ByteArray)} {i:Nat} {t u:Int×Int×Bool×List ByteArray} (h:i < cur.length) (hne:u.2.2.2.isEmpty=false):(newsC V.str (((cur.set i t)).flatMap (eltC (fun t:Int×Int×Bool×List ByteArray=>[V.int .i64 t.1,V.int .i64 t.2.1,V.bool t.2.2.1]) (fun t:Int×Int×Bool×List ByteArray=>t.2.2.2)))).set (1+4 * i+2) (.arr (u.2.2.2.map V.str) .flat)=(newsC V.str (((cur.set i u)).flatMap (eltC (fun t:Int×Int×Bool×List ByteArray=>[V.int .i64 t.1,V.int .i64 t.2.1,V.bool t.2.2.1]) (fun t:Int×Int×Bool×List ByteArray=>t.2.2.2)))):=by
  have q:=newsX_set (pre:=(fun t:Int×Int×Bool×List ByteArray=>[V.int .i64 t.1,V.int .i64 t.2.1,V.bool t.2.2.1])) (sl:=(fun t:Int×Int×Bool×List ByteArray=>t.2.2.2)) (f:=V.str) (n:=3) (fun _=>rfl) (l:=cur.set i t) (i:=i) (t:=u) (by rw [List.length_set];exact h)
  rw [List.set_set] at q
  rw [show rowB V.str ((fun t:Int×Int×Bool×List ByteArray=>t.2.2.2) u)=.arr (u.2.2.2.map V.str) .flat by simp [rowB,hne],show (3+1) * i+3=1+4 * i+2 by omega] at q
  exact q
set_option maxRecDepth 8000 in
set_option maxHeartbeats 1000000 in
theorem markIncidentS_con (ll:List (Int×Int×Bool×List ByteArray)) (kk:Int) (hl:ll.length≤1048576) (hls:∀t∈ll,t.2.2.2.length≤1048576) (hk:0≤kk∧kk≤10000000000000):Con Tryz.prog 83 [.ref 0,.int .i64 kk] [.arr (ll.map (fun t:Int×Int×Bool×List ByteArray=>V.agg [V.int .i64 t.1,V.int .i64 t.2.1,V.bool t.2.2.1,V.sl (t.2.2.2.map V.str)])) (fillK ll.length)] (.int .i64 (kk+totIncident ll)) [.arr ((markIncidents kk ll).map (fun t:Int×Int×Bool×List ByteArray=>V.agg [V.int .i64 t.1,V.int .i64 t.2.1,V.bool t.2.2.1,V.sl (t.2.2.2.map V.str)])) (fillK ll.length)]:=by
 refine v_con [.tmp 4] [(22,[0])] Tryz.func83 rfl rfl rfl (by simp [Tryz.ntmps83]) ?_
 intro Q0 n0 r0
 simp only [Tryz.ntmps83,envFrom,Nat.reduceAdd]
 have T:=Tys.mk (And.intro Ty.t3 (And.intro Ty.t4 (And.intro Ty.t9 (And.intro Ty.t39 (And.intro Ty.t47 Ty.t78)))))
 have F:=Fc.mk True.intro
 refine v_seqR [0,1] ?_;intro K1 k1;refine zAssign ⟨?_⟩;refine k1 _ ?_;refine zk ⟨?_⟩;refine v_seq ?_;intro Q2 n2 e2 r2;refine v_seqR [0,1,5] ?_;intro K3 k3;refine zAssign ⟨?_⟩;refine k3 _ ?_;refine zk ⟨?_⟩;refine v_block ?_;intro Q4 n4 x4 e4 r4;refine v_loop (fun p=>⟨[(0,.ref 0),(1,.int .i64 p.2.1),(5,.int .i64 (Nat.cast p.1))],[.arr (p.2.2.map (fun t:Int×Int×Bool×List ByteArray=>V.agg [V.int .i64 t.1,V.int .i64 t.2.1,V.bool t.2.2.1,V.sl (t.2.2.2.map V.str)])) (fillK ll.length)],false,43,0⟩) (fun p=>p.1≤ll.length∧0≤p.2.1∧p.2.2.length=ll.length∧p.2.1+totIncident (ll.drop p.1)=kk+totIncident ll∧p.2.2.drop p.1=ll.drop p.1∧p.2.2.take p.1++markIncidents p.2.1 (ll.drop p.1)=markIncidents kk ll) (fun p=>ll.length - p.1) ((0,kk,ll):Nat×Int×List (Int×Int×Bool×List ByteArray)) ?_ ?_ ?_
 ·refine weak_bothS [0,1,5] [0] ⟨?_⟩
  rfl
 ·exact ⟨Nat.zero_le _,hk.1,rfl,by simp,rfl,by simp⟩
 ·rintro ⟨i,m,cur⟩ hok5 Q5 n5 e5 r5
  obtain ⟨hi1,hm0,hL,hK,hD,hM⟩:=hok5
  simp only [] at hi1 hm0 hL hK hD hM⊢
  refine v_seq ?_;intro Q6 n6 e6 r6;refine v_seqR [0,1,5,9] ?_;intro K7 k7;refine zq14 ⟨?_⟩;refine k7 _ ?_;refine zk ⟨?_⟩;refine v_condS _ rfl ?_ ?_
  ·intro hc0
   have hclen:(cur.map (fun t:Int×Int×Bool×List ByteArray=>V.agg [V.int .i64 t.1,V.int .i64 t.2.1,V.bool t.2.2.1,V.sl (t.2.2.2.map V.str)])).length=ll.length:=by rw [List.length_map,hL]
   have hlt:i < ll.length:=by omega
   have hkd:fillK ll.length=.deep:=by unfold fillK;rw [if_neg (by omega)]
   obtain ⟨⟨x0,x1,x2,x3⟩,hx⟩:∃x,ll[i]? =some x:=⟨_,List.getElem?_eq_getElem hlt⟩
   have hll:=hls _ (List.mem_of_getElem? hx)
   have htd:=totIncident_drop hx
   simp only [] at hll htd
   have hpos:=totIncident_pos (ll.drop (i+1))
   have htt:=totIncident_le hls
   have hcx:cur[i]? =some (x0,x1,x2,x3):=by have h:=congrArg (fun z=>z[0]?) hD;simpa [List.getElem?_drop,hx] using h
   have hsm:(cur.map (fun t:Int×Int×Bool×List ByteArray=>V.agg [V.int .i64 t.1,V.int .i64 t.2.1,V.bool t.2.2.1,V.sl (t.2.2.2.map V.str)])).set i (V.agg [V.int .i64 m,V.int .i64 (m+1),V.bool (decide (Int.tmod (m+1+1) 3=0)),V.sl (x3.map V.str)])=(cur.set i (m,m+1,decide (Int.tmod (m+1+1) 3=0),x3)).map (fun t:Int×Int×Bool×List ByteArray=>V.agg [V.int .i64 t.1,V.int .i64 t.2.1,V.bool t.2.2.1,V.sl (t.2.2.2.map V.str)]):=by have q:=List.map_set (f:=(fun t:Int×Int×Bool×List ByteArray=>V.agg [V.int .i64 t.1,V.int .i64 t.2.1,V.bool t.2.2.1,V.sl (t.2.2.2.map V.str)])) (l:=cur) (i:=i) (a:=(m,m+1,decide (Int.tmod (m+1+1) 3=0),x3));exact q.symm
   have hc1:(cur.set i (m,m+1,decide (Int.tmod (m+1+1) 3=0),x3))[i]? =some (m,m+1,decide (Int.tmod (m+1+1) 3=0),x3):=List.getElem?_set_self (by omega)
   have hrow:=ic_get hc1
   simp only [] at hrow
   have hoc:=openX_len (pre:=(fun t:Int×Int×Bool×List ByteArray=>[V.int .i64 t.1,V.int .i64 t.2.1,V.bool t.2.2.1])) (sl:=(fun t:Int×Int×Bool×List ByteArray=>t.2.2.2)) (n:=3) (cur.set i (m,m+1,decide (Int.tmod (m+1+1) 3=0),x3)) 1
   have hcl1:(cur.set i (m,m+1,decide (Int.tmod (m+1+1) 3=0),x3)).length=ll.length:=by rw [List.length_set,hL]
   rcases Bool.eq_false_or_eq_true x3.isEmpty with he | he
   ·skip
    have hl0:x3=[]:=List.isEmpty_iff.1 he
    have hrv:rowV (1+4 * i+3) x3=.sl []:=by rw [hl0];rfl
    refine v_skip ?_;refine n6 _ _ (weak_keep [0,1,5] _) ?_;refine zk ⟨?_⟩;refine v_seq ?_;intro Q9 n9 e9 r9;refine v_block ?_;intro Q10 n10 x10 e10 r10;refine v_seqR [0,1,5] ?_;intro K11 k11
    have F:=Fc.mk (And.intro hkd (And.intro hclen (And.intro (fun f=>getD_map (f:=f) hcx) (And.intro hsm (And.intro hrow (And.intro hoc (And.intro hcl1 (And.intro @getD_set (And.intro hlt (And.intro @List.length_set.{0} (And.intro @List.set_set.{0} hrv)))))))))))
    refine zq20 ⟨?_⟩;refine v_op ?_;intro K k
    simp only [zE,zL,zN,aStepM,optable,set_some,Nat.reduceEqDiff,reduceIte,Nat.reduceLT,implies_true,forall_const,reduceCtorEq,V.ofValue,V.ofScalar,V.un,V.gd,aExec,aop,List.mem_cons,List.not_mem_nil,or_false,forall_eq_or_imp,forall_eq,aIndexAddr,row_mk,Blk.row,Go.Vm.V.cells,List.forall_mem_map,List.length_map,Int.toNat_natCast,Int.reduceToNat,TypeDesc.slice.injEq,Nat.reduceAdd,Nat.reduceLeDiff,Nat.reduceMul,Tryz.underlying39,Ty.c39,Ty.a39,Tryz.underlying78,Ty.c78,Ty.a78,hkd,hclen,getD_map hcx,hsm,hrow,hoc,hcl1,getD_set,hlt,List.length_set,List.set_set,hrv]
    repeat (refine And.intro (by first | omega | (exact ic_cells cur 1) | (exact ic_cells _ 1) | (exact set_all (fun x hx=>by obtain ⟨t,_,rfl⟩:=List.mem_map.1 hx;rfl) rfl) | (intros;omega) | (intros;simp_all;done)) ?_)
    refine k _ ?_;clear k K;refine v_op ?_;intro K k
    simp only [zE,zL,zN,aStepM,optable,set_some,Nat.reduceEqDiff,reduceIte,Nat.reduceLT,implies_true,forall_const,reduceCtorEq,V.ofValue,V.ofScalar,V.un,V.gd,aExec,aop,aFieldAddr,Nat.reduceAdd,Nat.reduceLeDiff,Nat.reduceMul,Tryz.underlying3,Ty.c3,Ty.a3,Tryz.underlying4,Ty.c4,Ty.a4,Tryz.underlying47,Ty.c47,Ty.a47,Tryz.underlying78,Ty.c78,Ty.a78,hkd,hclen,getD_map hcx,hsm,hrow,hoc,hcl1,getD_set,hlt,List.length_set,List.set_set,hrv]
    repeat (refine And.intro (by first | omega | (exact set_all (fun x hx=>by obtain ⟨t,_,rfl⟩:=List.mem_map.1 hx;rfl) rfl) | (intros;omega) | (intros;simp_all;done)) ?_)
    refine k _ ?_;clear k K;refine v_op ?_;intro K k
    simp only [zE,zS,zJ,zL,zO,zN,aStepM,optable,set_some,Nat.reduceEqDiff,reduceIte,Nat.reduceLT,implies_true,forall_const,reduceCtorEq,V.ofValue,V.ofScalar,V.un,V.gd,aExec,aop,aStore,setCells,V.isVal,V.cells,kindOf,kindAll,V.noSl,V.noRef,gt_iff_lt,Nat.reduceAdd,Nat.reduceLeDiff,Nat.reduceMul,takeV,takeCell,takeCells,row_mk,Blk.row,killAll,Nat.reduceBEq,join_t,Tryz.underlying3,Ty.c3,Ty.a3,hkd,hclen,getD_map hcx,hsm,hrow,hoc,hcl1,getD_set,hlt,List.length_set,List.set_set,hrv]
    repeat (refine And.intro (by first | omega | (exact set_all (fun x hx=>by obtain ⟨t,_,rfl⟩:=List.mem_map.1 hx;rfl) rfl) | (intros;omega) | (intros;simp_all;done)) ?_)
    refine k _ ?_;clear k K;refine k11 _ ?_;refine zk ⟨?_⟩;refine v_seqR [0,1,5] ?_;intro K12 k12;refine zq6 ⟨?_⟩;refine k12 _ ?_;refine zk ⟨?_⟩;refine v_seqR [0,1,5] ?_;intro K13 k13;refine zq20 ⟨?_⟩;refine v_op ?_;intro K k
    simp only [zE,zL,zN,aStepM,optable,set_some,Nat.reduceEqDiff,reduceIte,Nat.reduceLT,implies_true,forall_const,reduceCtorEq,V.ofValue,V.ofScalar,V.un,V.gd,aExec,aop,List.mem_cons,List.not_mem_nil,or_false,forall_eq_or_imp,forall_eq,aIndexAddr,row_mk,Blk.row,Go.Vm.V.cells,List.forall_mem_map,List.length_map,Int.toNat_natCast,Int.reduceToNat,TypeDesc.slice.injEq,Nat.reduceAdd,Nat.reduceLeDiff,Nat.reduceMul,Tryz.underlying39,Ty.c39,Ty.a39,Tryz.underlying78,Ty.c78,Ty.a78,hkd,hclen,getD_map hcx,hsm,hrow,hoc,hcl1,getD_set,hlt,List.length_set,List.set_set,hrv]
    repeat (refine And.intro (by first | omega | (exact ic_cells cur 1) | (exact ic_cells _ 1) | (exact set_all (fun x hx=>by obtain ⟨t,_,rfl⟩:=List.mem_map.1 hx;rfl) rfl) | (intros;omega) | (intros;simp_all;done)) ?_)
    refine k _ ?_;clear k K;refine v_op ?_;intro K k
    simp only [zE,zL,zN,aStepM,optable,set_some,Nat.reduceEqDiff,reduceIte,Nat.reduceLT,implies_true,forall_const,reduceCtorEq,V.ofValue,V.ofScalar,V.un,V.gd,aExec,aop,aFieldAddr,Nat.reduceAdd,Nat.reduceLeDiff,Nat.reduceMul,Tryz.underlying3,Ty.c3,Ty.a3,Tryz.underlying4,Ty.c4,Ty.a4,Tryz.underlying47,Ty.c47,Ty.a47,Tryz.underlying78,Ty.c78,Ty.a78,hkd,hclen,getD_map hcx,hsm,hrow,hoc,hcl1,getD_set,hlt,List.length_set,List.set_set,hrv]
    repeat (refine And.intro (by first | omega | (exact set_all (fun x hx=>by obtain ⟨t,_,rfl⟩:=List.mem_map.1 hx;rfl) rfl) | (intros;omega) | (intros;simp_all;done)) ?_)
    refine k _ ?_;clear k K;refine v_op ?_;intro K k
    simp only [zE,zS,zJ,zL,zO,zN,aStepM,optable,set_some,Nat.reduceEqDiff,reduceIte,Nat.reduceLT,implies_true,forall_const,reduceCtorEq,V.ofValue,V.ofScalar,V.un,V.gd,aExec,aop,aStore,setCells,V.isVal,V.cells,kindOf,kindAll,V.noSl,V.noRef,gt_iff_lt,Nat.reduceAdd,Nat.reduceLeDiff,Nat.reduceMul,takeV,takeCell,takeCells,row_mk,Blk.row,killAll,Nat.reduceBEq,join_t,Tryz.underlying3,Ty.c3,Ty.a3,hkd,hclen,getD_map hcx,hsm,hrow,hoc,hcl1,getD_set,hlt,List.length_set,List.set_set,hrv]
    repeat (refine And.intro (by first | omega | (exact set_all (fun x hx=>by obtain ⟨t,_,rfl⟩:=List.mem_map.1 hx;rfl) rfl) | (intros;omega) | (intros;simp_all;done)) ?_)
    refine k _ ?_;clear k K;refine k13 _ ?_;refine zk ⟨?_⟩;refine v_seqR [0,1,5] ?_;intro K14 k14;refine zq6 ⟨?_⟩;refine k14 _ ?_;refine zk ⟨?_⟩;refine v_seqR [0,1,5] ?_;intro K15 k15;refine zq2 ⟨?_⟩;refine zq13 ⟨?_⟩;refine zBinOp ⟨?_⟩;refine v_op ?_;intro K k
    simp only [zE,zL,zN,aStepM,optable,set_some,Nat.reduceEqDiff,reduceIte,Nat.reduceLT,implies_true,forall_const,reduceCtorEq,V.ofValue,V.ofScalar,V.un,V.gd,aExec,aop,List.mem_cons,List.not_mem_nil,or_false,forall_eq_or_imp,forall_eq,aIndexAddr,row_mk,Blk.row,Go.Vm.V.cells,List.forall_mem_map,List.length_map,Int.toNat_natCast,Int.reduceToNat,TypeDesc.slice.injEq,Nat.reduceAdd,Nat.reduceLeDiff,Nat.reduceMul,Tryz.underlying39,Ty.c39,Ty.a39,Tryz.underlying78,Ty.c78,Ty.a78,hkd,hclen,getD_map hcx,hsm,hrow,hoc,hcl1,getD_set,hlt,List.length_set,List.set_set,hrv]
    repeat (refine And.intro (by first | omega | (exact ic_cells cur 1) | (exact ic_cells _ 1) | (exact set_all (fun x hx=>by obtain ⟨t,_,rfl⟩:=List.mem_map.1 hx;rfl) rfl) | (intros;omega) | (intros;simp_all;done)) ?_)
    refine k _ ?_;clear k K;refine v_op ?_;intro K k
    simp only [zE,zL,zN,aStepM,optable,set_some,Nat.reduceEqDiff,reduceIte,Nat.reduceLT,implies_true,forall_const,reduceCtorEq,V.ofValue,V.ofScalar,V.un,V.gd,aExec,aop,aFieldAddr,Nat.reduceAdd,Nat.reduceLeDiff,Nat.reduceMul,Tryz.underlying3,Ty.c3,Ty.a3,Tryz.underlying4,Ty.c4,Ty.a4,Tryz.underlying47,Ty.c47,Ty.a47,Tryz.underlying78,Ty.c78,Ty.a78,hkd,hclen,getD_map hcx,hsm,hrow,hoc,hcl1,getD_set,hlt,List.length_set,List.set_set,hrv]
    repeat (refine And.intro (by first | omega | (exact set_all (fun x hx=>by obtain ⟨t,_,rfl⟩:=List.mem_map.1 hx;rfl) rfl) | (intros;omega) | (intros;simp_all;done)) ?_)
    refine k _ ?_;clear k K;refine v_op ?_;intro K k
    simp only [zE,zS,zJ,zL,zO,zN,aStepM,optable,set_some,Nat.reduceEqDiff,reduceIte,Nat.reduceLT,implies_true,forall_const,reduceCtorEq,V.ofValue,V.ofScalar,V.un,V.gd,aExec,aop,aStore,setCells,V.isVal,V.cells,kindOf,kindAll,V.noSl,V.noRef,gt_iff_lt,Nat.reduceAdd,Nat.reduceLeDiff,Nat.reduceMul,takeV,takeCell,takeCells,row_mk,Blk.row,killAll,Nat.reduceBEq,join_t,Tryz.underlying4,Ty.c4,Ty.a4,hkd,hclen,getD_map hcx,hsm,hrow,hoc,hcl1,getD_set,hlt,List.length_set,List.set_set,hrv]
    repeat (refine And.intro (by first | omega | (exact set_all (fun x hx=>by obtain ⟨t,_,rfl⟩:=List.mem_map.1 hx;rfl) rfl) | (intros;omega) | (intros;simp_all;done)) ?_)
    refine k _ ?_;clear k K;refine k15 _ ?_;refine zk ⟨?_⟩;refine v_seq ?_;intro Q16 n16 e16 r16;refine v_region ?_;intro K17 k17;refine zq6 ⟨?_⟩;refine k17 _ ?_
    apply n16
    ·apply weak_trans (weak_keep [0,1,5] _)
     simp only [keep_mk,keepE_nil,keepE_cons,look_cons,look_nil,Nat.reduceEqDiff,reduceIte]
     exact weak_openC (f:=V.str) 0 ((cur.set i (m,m+1,decide (Int.tmod (m+1+1) 3=0),x3)).map (fun t:Int×Int×Bool×List ByteArray=>V.agg [V.int .i64 t.1,V.int .i64 t.2.1,V.bool t.2.2.1,V.sl (t.2.2.2.map V.str)])) (openX (fun t:Int×Int×Bool×List ByteArray=>[V.int .i64 t.1,V.int .i64 t.2.1,V.bool t.2.2.1]) (fun t:Int×Int×Bool×List ByteArray=>t.2.2.2) 3 1 (cur.set i (m,m+1,decide (Int.tmod (m+1+1) 3=0),x3))) ((cur.set i (m,m+1,decide (Int.tmod (m+1+1) 3=0),x3)).flatMap (eltC (fun t:Int×Int×Bool×List ByteArray=>[V.int .i64 t.1,V.int .i64 t.2.1,V.bool t.2.2.1]) (fun t:Int×Int×Bool×List ByteArray=>t.2.2.2))) .deep rfl (ic_closed _) (ic_opened _ 1) (by simp [openX_len]) ic_sz (elt_plain ic_plain _) (.inr rfl) rfl (fun _=>rfl)
    try simp only [atSlot_cons,atSlot_nil,Nat.reduceEqDiff,reduceIte,List.set_cons_zero,List.set_cons_succ]
    refine v_region ?_;intro K18 k18;refine zq2 ⟨?_⟩;refine v_op ?_;intro K k
    simp only [zE,zL,zN,aStepM,optable,set_some,Nat.reduceEqDiff,reduceIte,Nat.reduceLT,implies_true,forall_const,reduceCtorEq,V.ofValue,V.ofScalar,V.un,V.gd,aExec,aop,List.mem_cons,List.not_mem_nil,or_false,forall_eq_or_imp,forall_eq,aIndexAddr,row_mk,Blk.row,Go.Vm.V.cells,List.forall_mem_map,List.length_map,Int.toNat_natCast,Int.reduceToNat,TypeDesc.slice.injEq,Nat.reduceAdd,Nat.reduceLeDiff,Nat.reduceMul,Tryz.underlying39,Ty.c39,Ty.a39,Tryz.underlying78,Ty.c78,Ty.a78,hkd,hclen,getD_map hcx,hsm,hrow,hoc,hcl1,getD_set,hlt,List.length_set,List.set_set,hrv]
    repeat (refine And.intro (by first | omega | (exact ic_cells cur 1) | (exact ic_cells _ 1) | (exact set_all (fun x hx=>by obtain ⟨t,_,rfl⟩:=List.mem_map.1 hx;rfl) rfl) | (intros;omega) | (intros;simp_all;done)) ?_)
    refine k _ ?_;clear k K;refine v_op ?_;intro K k
    simp only [zE,zL,zN,aStepM,optable,set_some,Nat.reduceEqDiff,reduceIte,Nat.reduceLT,implies_true,forall_const,reduceCtorEq,V.ofValue,V.ofScalar,V.un,V.gd,aExec,aop,aFieldAddr,Nat.reduceAdd,Nat.reduceLeDiff,Nat.reduceMul,Tryz.underlying3,Ty.c3,Ty.a3,Tryz.underlying4,Ty.c4,Ty.a4,Tryz.underlying47,Ty.c47,Ty.a47,Tryz.underlying78,Ty.c78,Ty.a78,hkd,hclen,getD_map hcx,hsm,hrow,hoc,hcl1,getD_set,hlt,List.length_set,List.set_set,hrv]
    repeat (refine And.intro (by first | omega | (exact set_all (fun x hx=>by obtain ⟨t,_,rfl⟩:=List.mem_map.1 hx;rfl) rfl) | (intros;omega) | (intros;simp_all;done)) ?_)
    refine k _ ?_;clear k K;refine v_op ?_;intro K k
    simp only [zE,zL,zO,zN,aStepM,optable,set_some,Nat.reduceEqDiff,reduceIte,Nat.reduceLT,implies_true,forall_const,reduceCtorEq,V.ofValue,V.ofScalar,V.un,V.gd,aExec,aop,aLoad,row_mk,Blk.row,PartOK,Go.Vm.part,V.cells,V.noSl,V.noRef,Nat.reduceAdd,Nat.reduceLeDiff,Nat.reduceMul,Tryz.underlying9,Ty.c9,Ty.a9,Tryz.underlying47,Ty.c47,Ty.a47,hkd,hclen,getD_map hcx,hsm,hrow,hoc,hcl1,getD_set,hlt,List.length_set,List.set_set,hrv]
    repeat (refine And.intro (by first | omega | (exact set_all (fun x hx=>by obtain ⟨t,_,rfl⟩:=List.mem_map.1 hx;rfl) rfl) | (intros;omega) | (intros;simp_all;done)) ?_)
    refine k _ ?_;clear k K;refine zMove ⟨?_⟩;refine v_op ?_;intro K k
    simp only [zE,zM,aStepM,optable,set_some,Nat.reduceEqDiff,reduceIte,Nat.reduceLT,implies_true,forall_const,reduceCtorEq,V.ofValue,V.ofScalar,V.un,V.gd,aExec,lentIds,lendOf,Tryz.underlying3,Ty.c3,Ty.a3,Ty.b3,Ty.s3,Tryz.underlying9,Ty.c9,Ty.a9,Ty.b9,Ty.s9,Tryz.underlying47,Ty.c47,Ty.a47,Ty.b47,Ty.s47]
    repeat (refine And.intro (by first | rfl | (intros;simp_all;done)) ?_)
    first | refine aCall_lent _ (markStringS_con x3 (m+1+1+1) hll (by omega)) (by first | rfl | (simp only [toArgs,toArg,toCell,toCells,idx,row_mk,List.getElem?_cons_zero,List.getElem?_cons_succ,Option.bind_some,Option.map_some,Blk.row,fillK_mix,flat_mix,deep_mix,thin_mix,shal_mix,cond_true,List.map_take];done) | (simp [toArgs,toArg,toCell,toCells,idx,row_mk,Blk.row,fillK_mix,flat_mix,deep_mix,thin_mix,shal_mix,Nat.beq_refl];done)) hO ⟨by simp [Blk.kindIs,fillK_mix],by simp⟩ (by first | exact .inl rfl | exact .inr (by simp [Blk.kindIs])) ⟨rfl,by simp [Blk.kindIs,fillK_fd]⟩ ?_ | refine aCall_new (markStr0_con (m+1+1+1)) (by first | rfl | (simp only [toArgs,toArg,toCell,toCells,idx,row_mk,List.getElem?_cons_zero,List.getElem?_cons_succ,Option.bind_some,Option.map_some,Blk.row,fillK_mix,flat_mix,deep_mix,thin_mix,shal_mix,cond_true,List.map_take];done) | (simp [toArgs,toArg,toCell,toCells,idx,row_mk,Blk.row,fillK_mix,flat_mix,deep_mix,thin_mix,shal_mix,Nat.beq_refl];done)) (by first | exact .inl ⟨rfl,by simp [Blk.kindIs,fillK_fd]⟩ | exact .inr (by simp [V.cold])) ?_
    refine k _ ?_;clear k K
    simp only [zY,zW,set_some,Nat.reduceEqDiff,reduceIte,rho_one,rho_s,V.ren,V.renL,List.set_cons_zero,List.set_cons_succ,Nat.reduceAdd]
    refine zAssign ⟨?_⟩;refine k18 _ ?_;refine n10 _ ?_
    apply n9
    ·apply weak_trans (weak_keep [0,1,5] _)
     simp only [keep_mk,keepE_nil,keepE_cons,look_cons,look_nil,Nat.reduceEqDiff,reduceIte]
     exact weak_closeC (A:=[.arr (openX (fun t:Int×Int×Bool×List ByteArray=>[V.int .i64 t.1,V.int .i64 t.2.1,V.bool t.2.2.1]) (fun t:Int×Int×Bool×List ByteArray=>t.2.2.2) 3 1 (cur.set i (m,m+1,decide (Int.tmod (m+1+1) 3=0),x3))) .mix]) 0 ((cur.set i (m,m+1,decide (Int.tmod (m+1+1) 3=0),x3)).map (fun t:Int×Int×Bool×List ByteArray=>V.agg [V.int .i64 t.1,V.int .i64 t.2.1,V.bool t.2.2.1,V.sl (t.2.2.2.map V.str)])) (openX (fun t:Int×Int×Bool×List ByteArray=>[V.int .i64 t.1,V.int .i64 t.2.1,V.bool t.2.2.1]) (fun t:Int×Int×Bool×List ByteArray=>t.2.2.2) 3 1 (cur.set i (m,m+1,decide (Int.tmod (m+1+1) 3=0),x3))) ((cur.set i (m,m+1,decide (Int.tmod (m+1+1) 3=0),x3)).flatMap (eltC (fun t:Int×Int×Bool×List ByteArray=>[V.int .i64 t.1,V.int .i64 t.2.1,V.bool t.2.2.1]) (fun t:Int×Int×Bool×List ByteArray=>t.2.2.2))) rfl rfl (ic_closed _) (ic_opened _ 1) (by simp [openX_len]) ic_sz2 (elt_plain ic_plain _)
    try simp only [atSlot_cons,atSlot_nil,Nat.reduceEqDiff,reduceIte,List.set_cons_zero,List.set_cons_succ]
    refine v_region ?_;intro K19 k19;refine zq6 ⟨?_⟩;refine k19 _ ?_;refine n5 _ (i+1,m+1+1+1,cur.set i (m,m+1,decide (Int.tmod (m+1+1) 3=0),x3)) ?_ ?_ ?_
    ·refine weak_bothS [0,1,5] [0] ⟨?_⟩
     first | (simp only [hkd];rfl) | trace_state
    ·exact ⟨hlt,by show 0≤m+1+1+1;omega,by show (cur.set i _).length=_;rw [List.length_set];exact hL,by subst hl0;show m+1+1+1+totIncident (ll.drop (i+1))=_;rw [←hK,htd];(try simp);omega,by show (cur.set i _).drop (i+1)=_;rw [List.drop_set_of_lt (by omega)];have h:=congrArg (List.drop 1) hD;simpa [List.drop_drop,Nat.add_comm] using h,by subst hl0;show (cur.set i _).take (i+1)++markIncidents (m+1+1+1) _=_;rw [←hM,getElem_drop_cons hx,markIncidents,set_cons_eq (by omega)];simp [markStr,markG]⟩
    ·show _ < _;show ll.length - (i+1) < ll.length - i;omega
   ·skip
    have hrv:rowV (1+4 * i+3) x3=.ref (1+4 * i+3):=by rw [rowV,he];rfl
    have hO:=ic_news (b:=.arr (openX (fun t:Int×Int×Bool×List ByteArray=>[V.int .i64 t.1,V.int .i64 t.2.1,V.bool t.2.2.1]) (fun t:Int×Int×Bool×List ByteArray=>t.2.2.2) 3 1 (cur.set i (m,m+1,decide (Int.tmod (m+1+1) 3=0),x3))) .mix) hc1 he
    refine v_skip ?_;refine n6 _ _ (weak_keep [0,1,5] _) ?_;refine zk ⟨?_⟩;refine v_seq ?_;intro Q20 n20 e20 r20;refine v_block ?_;intro Q21 n21 x21 e21 r21;refine v_seqR [0,1,5] ?_;intro K22 k22
    have F:=Fc.mk (And.intro hkd (And.intro hclen (And.intro (fun f=>getD_map (f:=f) hcx) (And.intro hsm (And.intro hrow (And.intro hoc (And.intro hcl1 (And.intro @getD_set (And.intro hlt (And.intro @List.length_set.{0} (And.intro @List.set_set.{0} hrv)))))))))))
    refine zq20 ⟨?_⟩;refine v_op ?_;intro K k
    simp only [zE,zL,zN,aStepM,optable,set_some,Nat.reduceEqDiff,reduceIte,Nat.reduceLT,implies_true,forall_const,reduceCtorEq,V.ofValue,V.ofScalar,V.un,V.gd,aExec,aop,List.mem_cons,List.not_mem_nil,or_false,forall_eq_or_imp,forall_eq,aIndexAddr,row_mk,Blk.row,Go.Vm.V.cells,List.forall_mem_map,List.length_map,Int.toNat_natCast,Int.reduceToNat,TypeDesc.slice.injEq,Nat.reduceAdd,Nat.reduceLeDiff,Nat.reduceMul,Tryz.underlying39,Ty.c39,Ty.a39,Tryz.underlying78,Ty.c78,Ty.a78,hkd,hclen,getD_map hcx,hsm,hrow,hoc,hcl1,getD_set,hlt,List.length_set,List.set_set,hrv]
    repeat (refine And.intro (by first | omega | (exact ic_cells cur 1) | (exact ic_cells _ 1) | (exact set_all (fun x hx=>by obtain ⟨t,_,rfl⟩:=List.mem_map.1 hx;rfl) rfl) | (intros;omega) | (intros;simp_all;done)) ?_)
    refine k _ ?_;clear k K;refine v_op ?_;intro K k
    simp only [zE,zL,zN,aStepM,optable,set_some,Nat.reduceEqDiff,reduceIte,Nat.reduceLT,implies_true,forall_const,reduceCtorEq,V.ofValue,V.ofScalar,V.un,V.gd,aExec,aop,aFieldAddr,Nat.reduceAdd,Nat.reduceLeDiff,Nat.reduceMul,Tryz.underlying3,Ty.c3,Ty.a3,Tryz.underlying4,Ty.c4,Ty.a4,Tryz.underlying47,Ty.c47,Ty.a47,Tryz.underlying78,Ty.c78,Ty.a78,hkd,hclen,getD_map hcx,hsm,hrow,hoc,hcl1,getD_set,hlt,List.length_set,List.set_set,hrv]
    repeat (refine And.intro (by first | omega | (exact set_all (fun x hx=>by obtain ⟨t,_,rfl⟩:=List.mem_map.1 hx;rfl) rfl) | (intros;omega) | (intros;simp_all;done)) ?_)
    refine k _ ?_;clear k K;refine v_op ?_;intro K k
    simp only [zE,zS,zJ,zL,zO,zN,aStepM,optable,set_some,Nat.reduceEqDiff,reduceIte,Nat.reduceLT,implies_true,forall_const,reduceCtorEq,V.ofValue,V.ofScalar,V.un,V.gd,aExec,aop,aStore,setCells,V.isVal,V.cells,kindOf,kindAll,V.noSl,V.noRef,gt_iff_lt,Nat.reduceAdd,Nat.reduceLeDiff,Nat.reduceMul,takeV,takeCell,takeCells,row_mk,Blk.row,killAll,Nat.reduceBEq,join_t,Tryz.underlying3,Ty.c3,Ty.a3,hkd,hclen,getD_map hcx,hsm,hrow,hoc,hcl1,getD_set,hlt,List.length_set,List.set_set,hrv]
    repeat (refine And.intro (by first | omega | (exact set_all (fun x hx=>by obtain ⟨t,_,rfl⟩:=List.mem_map.1 hx;rfl) rfl) | (intros;omega) | (intros;simp_all;done)) ?_)
    refine k _ ?_;clear k K;refine k22 _ ?_;refine zk ⟨?_⟩;refine v_seqR [0,1,5] ?_;intro K23 k23;refine zq6 ⟨?_⟩;refine k23 _ ?_;refine zk ⟨?_⟩;refine v_seqR [0,1,5] ?_;intro K24 k24;refine zq20 ⟨?_⟩;refine v_op ?_;intro K k
    simp only [zE,zL,zN,aStepM,optable,set_some,Nat.reduceEqDiff,reduceIte,Nat.reduceLT,implies_true,forall_const,reduceCtorEq,V.ofValue,V.ofScalar,V.un,V.gd,aExec,aop,List.mem_cons,List.not_mem_nil,or_false,forall_eq_or_imp,forall_eq,aIndexAddr,row_mk,Blk.row,Go.Vm.V.cells,List.forall_mem_map,List.length_map,Int.toNat_natCast,Int.reduceToNat,TypeDesc.slice.injEq,Nat.reduceAdd,Nat.reduceLeDiff,Nat.reduceMul,Tryz.underlying39,Ty.c39,Ty.a39,Tryz.underlying78,Ty.c78,Ty.a78,hkd,hclen,getD_map hcx,hsm,hrow,hoc,hcl1,getD_set,hlt,List.length_set,List.set_set,hrv]
    repeat (refine And.intro (by first | omega | (exact ic_cells cur 1) | (exact ic_cells _ 1) | (exact set_all (fun x hx=>by obtain ⟨t,_,rfl⟩:=List.mem_map.1 hx;rfl) rfl) | (intros;omega) | (intros;simp_all;done)) ?_)
    refine k _ ?_;clear k K;refine v_op ?_;intro K k
    simp only [zE,zL,zN,aStepM,optable,set_some,Nat.reduceEqDiff,reduceIte,Nat.reduceLT,implies_true,forall_const,reduceCtorEq,V.ofValue,V.ofScalar,V.un,V.gd,aExec,aop,aFieldAddr,Nat.reduceAdd,Nat.reduceLeDiff,Nat.reduceMul,Tryz.underlying3,Ty.c3,Ty.a3,Tryz.underlying4,Ty.c4,Ty.a4,Tryz.underlying47,Ty.c47,Ty.a47,Tryz.underlying78,Ty.c78,Ty.a78,hkd,hclen,getD_map hcx,hsm,hrow,hoc,hcl1,getD_set,hlt,List.length_set,List.set_set,hrv]
    repeat (refine And.intro (by first | omega | (exact set_all (fun x hx=>by obtain ⟨t,_,rfl⟩:=List.mem_map.1 hx;rfl) rfl) | (intros;omega) | (intros;simp_all;done)) ?_)
    refine k _ ?_;clear k K;refine v_op ?_;intro K k
    simp only [zE,zS,zJ,zL,zO,zN,aStepM,optable,set_some,Nat.reduceEqDiff,reduceIte,Nat.reduceLT,implies_true,forall_const,reduceCtorEq,V.ofValue,V.ofScalar,V.un,V.gd,aExec,aop,aStore,setCells,V.isVal,V.cells,kindOf,kindAll,V.noSl,V.noRef,gt_iff_lt,Nat.reduceAdd,Nat.reduceLeDiff,Nat.reduceMul,takeV,takeCell,takeCells,row_mk,Blk.row,killAll,Nat.reduceBEq,join_t,Tryz.underlying3,Ty.c3,Ty.a3,hkd,hclen,getD_map hcx,hsm,hrow,hoc,hcl1,getD_set,hlt,List.length_set,List.set_set,hrv]
    repeat (refine And.intro (by first | omega | (exact set_all (fun x hx=>by obtain ⟨t,_,rfl⟩:=List.mem_map.1 hx;rfl) rfl) | (intros;omega) | (intros;simp_all;done)) ?_)
    refine k _ ?_;clear k K;refine k24 _ ?_;refine zk ⟨?_⟩;refine v_seqR [0,1,5] ?_;intro K25 k25;refine zq6 ⟨?_⟩;refine k25 _ ?_;refine zk ⟨?_⟩;refine v_seqR [0,1,5] ?_;intro K26 k26;refine zq2 ⟨?_⟩;refine zq13 ⟨?_⟩;refine zBinOp ⟨?_⟩;refine v_op ?_;intro K k
    simp only [zE,zL,zN,aStepM,optable,set_some,Nat.reduceEqDiff,reduceIte,Nat.reduceLT,implies_true,forall_const,reduceCtorEq,V.ofValue,V.ofScalar,V.un,V.gd,aExec,aop,List.mem_cons,List.not_mem_nil,or_false,forall_eq_or_imp,forall_eq,aIndexAddr,row_mk,Blk.row,Go.Vm.V.cells,List.forall_mem_map,List.length_map,Int.toNat_natCast,Int.reduceToNat,TypeDesc.slice.injEq,Nat.reduceAdd,Nat.reduceLeDiff,Nat.reduceMul,Tryz.underlying39,Ty.c39,Ty.a39,Tryz.underlying78,Ty.c78,Ty.a78,hkd,hclen,getD_map hcx,hsm,hrow,hoc,hcl1,getD_set,hlt,List.length_set,List.set_set,hrv]
    repeat (refine And.intro (by first | omega | (exact ic_cells cur 1) | (exact ic_cells _ 1) | (exact set_all (fun x hx=>by obtain ⟨t,_,rfl⟩:=List.mem_map.1 hx;rfl) rfl) | (intros;omega) | (intros;simp_all;done)) ?_)
    refine k _ ?_;clear k K;refine v_op ?_;intro K k
    simp only [zE,zL,zN,aStepM,optable,set_some,Nat.reduceEqDiff,reduceIte,Nat.reduceLT,implies_true,forall_const,reduceCtorEq,V.ofValue,V.ofScalar,V.un,V.gd,aExec,aop,aFieldAddr,Nat.reduceAdd,Nat.reduceLeDiff,Nat.reduceMul,Tryz.underlying3,Ty.c3,Ty.a3,Tryz.underlying4,Ty.c4,Ty.a4,Tryz.underlying47,Ty.c47,Ty.a47,Tryz.underlying78,Ty.c78,Ty.a78,hkd,hclen,getD_map hcx,hsm,hrow,hoc,hcl1,getD_set,hlt,List.length_set,List.set_set,hrv]
    repeat (refine And.intro (by first | omega | (exact set_all (fun x hx=>by obtain ⟨t,_,rfl⟩:=List.mem_map.1 hx;rfl) rfl) | (intros;omega) | (intros;simp_all;done)) ?_)
    refine k _ ?_;clear k K;refine v_op ?_;intro K k
    simp only [zE,zS,zJ,zL,zO,zN,aStepM,optable,set_some,Nat.reduceEqDiff,reduceIte,Nat.reduceLT,implies_true,forall_const,reduceCtorEq,V.ofValue,V.ofScalar,V.un,V.gd,aExec,aop,aStore,setCells,V.isVal,V.cells,kindOf,kindAll,V.noSl,V.noRef,gt_iff_lt,Nat.reduceAdd,Nat.reduceLeDiff,Nat.reduceMul,takeV,takeCell,takeCells,row_mk,Blk.row,killAll,Nat.reduceBEq,join_t,Tryz.underlying4,Ty.c4,Ty.a4,hkd,hclen,getD_map hcx,hsm,hrow,hoc,hcl1,getD_set,hlt,List.length_set,List.set_set,hrv]
    repeat (refine And.intro (by first | omega | (exact set_all (fun x hx=>by obtain ⟨t,_,rfl⟩:=List.mem_map.1 hx;rfl) rfl) | (intros;omega) | (intros;simp_all;done)) ?_)
    refine k _ ?_;clear k K;refine k26 _ ?_;refine zk ⟨?_⟩;refine v_seq ?_;intro Q27 n27 e27 r27;refine v_region ?_;intro K28 k28;refine zq6 ⟨?_⟩;refine k28 _ ?_
    apply n27
    ·apply weak_trans (weak_keep [0,1,5] _)
     simp only [keep_mk,keepE_nil,keepE_cons,look_cons,look_nil,Nat.reduceEqDiff,reduceIte]
     exact weak_openC (f:=V.str) 0 ((cur.set i (m,m+1,decide (Int.tmod (m+1+1) 3=0),x3)).map (fun t:Int×Int×Bool×List ByteArray=>V.agg [V.int .i64 t.1,V.int .i64 t.2.1,V.bool t.2.2.1,V.sl (t.2.2.2.map V.str)])) (openX (fun t:Int×Int×Bool×List ByteArray=>[V.int .i64 t.1,V.int .i64 t.2.1,V.bool t.2.2.1]) (fun t:Int×Int×Bool×List ByteArray=>t.2.2.2) 3 1 (cur.set i (m,m+1,decide (Int.tmod (m+1+1) 3=0),x3))) ((cur.set i (m,m+1,decide (Int.tmod (m+1+1) 3=0),x3)).flatMap (eltC (fun t:Int×Int×Bool×List ByteArray=>[V.int .i64 t.1,V.int .i64 t.2.1,V.bool t.2.2.1]) (fun t:Int×Int×Bool×List ByteArray=>t.2.2.2))) .deep rfl (ic_closed _) (ic_opened _ 1) (by simp [openX_len]) ic_sz (elt_plain ic_plain _) (.inr rfl) rfl (fun _=>rfl)
    try simp only [atSlot_cons,atSlot_nil,Nat.reduceEqDiff,reduceIte,List.set_cons_zero,List.set_cons_succ]
    refine v_region ?_;intro K29 k29;refine zq2 ⟨?_⟩;refine v_op ?_;intro K k
    simp only [zE,zL,zN,aStepM,optable,set_some,Nat.reduceEqDiff,reduceIte,Nat.reduceLT,implies_true,forall_const,reduceCtorEq,V.ofValue,V.ofScalar,V.un,V.gd,aExec,aop,List.mem_cons,List.not_mem_nil,or_false,forall_eq_or_imp,forall_eq,aIndexAddr,row_mk,Blk.row,Go.Vm.V.cells,List.forall_mem_map,List.length_map,Int.toNat_natCast,Int.reduceToNat,TypeDesc.slice.injEq,Nat.reduceAdd,Nat.reduceLeDiff,Nat.reduceMul,Tryz.underlying39,Ty.c39,Ty.a39,Tryz.underlying78,Ty.c78,Ty.a78,hkd,hclen,getD_map hcx,hsm,hrow,hoc,hcl1,getD_set,hlt,List.length_set,List.set_set,hrv]
    repeat (refine And.intro (by first | omega | (exact ic_cells cur 1) | (exact ic_cells _ 1) | (exact set_all (fun x hx=>by obtain ⟨t,_,rfl⟩:=List.mem_map.1 hx;rfl) rfl) | (intros;omega) | (intros;simp_all;done)) ?_)
    refine k _ ?_;clear k K;refine v_op ?_;intro K k
    simp only [zE,zL,zN,aStepM,optable,set_some,Nat.reduceEqDiff,reduceIte,Nat.reduceLT,implies_true,forall_const,reduceCtorEq,V.ofValue,V.ofScalar,V.un,V.gd,aExec,aop,aFieldAddr,Nat.reduceAdd,Nat.reduceLeDiff,Nat.reduceMul,Tryz.underlying3,Ty.c3,Ty.a3,Tryz.underlying4,Ty.c4,Ty.a4,Tryz.underlying47,Ty.c47,Ty.a47,Tryz.underlying78,Ty.c78,Ty.a78,hkd,hclen,getD_map hcx,hsm,hrow,hoc,hcl1,getD_set,hlt,List.length_set,List.set_set,hrv]
    repeat (refine And.intro (by first | omega | (exact set_all (fun x hx=>by obtain ⟨t,_,rfl⟩:=List.mem_map.1 hx;rfl) rfl) | (intros;omega) | (intros;simp_all;done)) ?_)
    refine k _ ?_;clear k K;refine v_op ?_;intro K k
    simp only [zE,zL,zO,zN,aStepM,optable,set_some,Nat.reduceEqDiff,reduceIte,Nat.reduceLT,implies_true,forall_const,reduceCtorEq,V.ofValue,V.ofScalar,V.un,V.gd,aExec,aop,aLoad,row_mk,Blk.row,PartOK,Go.Vm.part,V.cells,V.noSl,V.noRef,Nat.reduceAdd,Nat.reduceLeDiff,Nat.reduceMul,Tryz.underlying9,Ty.c9,Ty.a9,Tryz.underlying47,Ty.c47,Ty.a47,hkd,hclen,getD_map hcx,hsm,hrow,hoc,hcl1,getD_set,hlt,List.length_set,List.set_set,hrv]
    repeat (refine And.intro (by first | omega | (exact set_all (fun x hx=>by obtain ⟨t,_,rfl⟩:=List.mem_map.1 hx;rfl) rfl) | (intros;omega) | (intros;simp_all;done)) ?_)
    refine k _ ?_;clear k K;refine zMove ⟨?_⟩;refine v_op ?_;intro K k
    simp only [zE,zM,aStepM,optable,set_some,Nat.reduceEqDiff,reduceIte,Nat.reduceLT,implies_true,forall_const,reduceCtorEq,V.ofValue,V.ofScalar,V.un,V.gd,aExec,lentIds,lendOf,Tryz.underlying3,Ty.c3,Ty.a3,Ty.b3,Ty.s3,Tryz.underlying9,Ty.c9,Ty.a9,Ty.b9,Ty.s9,Tryz.underlying47,Ty.c47,Ty.a47,Ty.b47,Ty.s47]
    repeat (refine And.intro (by first | rfl | (intros;simp_all;done)) ?_)
    first | refine aCall_lent _ (markStringS_con x3 (m+1+1+1) hll (by omega)) (by first | rfl | (simp only [toArgs,toArg,toCell,toCells,idx,row_mk,List.getElem?_cons_zero,List.getElem?_cons_succ,Option.bind_some,Option.map_some,Blk.row,fillK_mix,flat_mix,deep_mix,thin_mix,shal_mix,cond_true,List.map_take];done) | (simp [toArgs,toArg,toCell,toCells,idx,row_mk,Blk.row,fillK_mix,flat_mix,deep_mix,thin_mix,shal_mix,Nat.beq_refl];done)) hO ⟨by simp [Blk.kindIs,fillK_mix],by simp⟩ (by first | exact .inl rfl | exact .inr (by simp [Blk.kindIs])) ⟨rfl,by simp [Blk.kindIs,fillK_fd]⟩ ?_ | refine aCall_new (markStr0_con (m+1+1+1)) (by first | rfl | (simp only [toArgs,toArg,toCell,toCells,idx,row_mk,List.getElem?_cons_zero,List.getElem?_cons_succ,Option.bind_some,Option.map_some,Blk.row,fillK_mix,flat_mix,deep_mix,thin_mix,shal_mix,cond_true,List.map_take];done) | (simp [toArgs,toArg,toCell,toCells,idx,row_mk,Blk.row,fillK_mix,flat_mix,deep_mix,thin_mix,shal_mix,Nat.beq_refl];done)) (by first | exact .inl ⟨rfl,by simp [Blk.kindIs,fillK_fd]⟩ | exact .inr (by simp [V.cold])) ?_
    refine k _ ?_;clear k K
    simp only [zY,zW,set_some,Nat.reduceEqDiff,reduceIte,rho_one,rho_s,V.ren,V.renL,List.set_cons_zero,List.set_cons_succ,Nat.reduceAdd]
    refine zAssign ⟨?_⟩;refine k29 _ ?_;refine n21 _ ?_
    apply n20
    ·apply weak_trans (weak_keep [0,1,5] _)
     simp only [keep_mk,keepE_nil,keepE_cons,look_cons,look_nil,Nat.reduceEqDiff,reduceIte]
     have hmne:(markStr (m+1+1+1) x3.length).isEmpty=false:=by cases x3 with | nil=>cases he | cons x l=>simp [markRow,markStr,markG,List.range_succ]
     rw [ic_news2 (t:=(m,m+1,decide (Int.tmod (m+1+1) 3=0),x3)) (u:=(m,m+1,decide (Int.tmod (m+1+1) 3=0),markStr (m+1+1+1) x3.length)) (by omega) hmne,ic_same (cur:=cur) (i:=i) (t:=(m,m+1,decide (Int.tmod (m+1+1) 3=0),x3)) (u:=(m,m+1,decide (Int.tmod (m+1+1) 3=0),markStr (m+1+1+1) x3.length)) rfl (by rw [he,hmne])]
     exact weak_closeC (A:=[.arr (openX (fun t:Int×Int×Bool×List ByteArray=>[V.int .i64 t.1,V.int .i64 t.2.1,V.bool t.2.2.1]) (fun t:Int×Int×Bool×List ByteArray=>t.2.2.2) 3 1 (cur.set i (m,m+1,decide (Int.tmod (m+1+1) 3=0),markStr (m+1+1+1) x3.length))) .mix]) 0 ((cur.set i (m,m+1,decide (Int.tmod (m+1+1) 3=0),markStr (m+1+1+1) x3.length)).map (fun t:Int×Int×Bool×List ByteArray=>V.agg [V.int .i64 t.1,V.int .i64 t.2.1,V.bool t.2.2.1,V.sl (t.2.2.2.map V.str)])) (openX (fun t:Int×Int×Bool×List ByteArray=>[V.int .i64 t.1,V.int .i64 t.2.1,V.bool t.2.2.1]) (fun t:Int×Int×Bool×List ByteArray=>t.2.2.2) 3 1 (cur.set i (m,m+1,decide (Int.tmod (m+1+1) 3=0),markStr (m+1+1+1) x3.length))) ((cur.set i (m,m+1,decide (Int.tmod (m+1+1) 3=0),markStr (m+1+1+1) x3.length)).flatMap (eltC (fun t:Int×Int×Bool×List ByteArray=>[V.int .i64 t.1,V.int .i64 t.2.1,V.bool t.2.2.1]) (fun t:Int×Int×Bool×List ByteArray=>t.2.2.2))) rfl rfl (ic_closed _) (ic_opened _ 1) (by simp [openX_len]) ic_sz2 (elt_plain ic_plain _)
    try simp only [atSlot_cons,atSlot_nil,Nat.reduceEqDiff,reduceIte,List.set_cons_zero,List.set_cons_succ]
    refine v_region ?_;intro K30 k30;refine zq6 ⟨?_⟩;refine k30 _ ?_;refine n5 _ (i+1,m+1+1+1+x3.length,cur.set i (m,m+1,decide (Int.tmod (m+1+1) 3=0),markStr (m+1+1+1) x3.length)) ?_ ?_ ?_
    ·refine weak_bothS [0,1,5] [0] ⟨?_⟩
     first | (simp only [hkd];rfl) | trace_state
    ·exact ⟨hlt,by show 0≤m+1+1+1+(x3.length:Int);omega,by show (cur.set i _).length=_;rw [List.length_set];exact hL,by show m+1+1+1+(x3.length:Int)+totIncident (ll.drop (i+1))=_;rw [←hK,htd];(try simp);omega,by show (cur.set i _).drop (i+1)=_;rw [List.drop_set_of_lt (by omega)];have h:=congrArg (List.drop 1) hD;simpa [List.drop_drop,Nat.add_comm] using h,by show (cur.set i _).take (i+1)++markIncidents (m+1+1+1+(x3.length:Int)) _=_;rw [←hM,getElem_drop_cons hx,markIncidents,set_cons_eq (by omega)]⟩
    ·show _ < _;show ll.length - (i+1) < ll.length - i;omega
  ·intro hc0
   refine v_exit ?_;refine e6 _ _ ?_;refine e5 _ _ ?_;refine x4 _ ?_;refine n2 _ _ (weak_keep [1] _) ?_;refine zk ⟨?_⟩;refine v_seqR [4] ?_;intro K31 k31;refine zq8 ⟨?_⟩;refine k31 _ ?_;refine zk ⟨?_⟩;refine v_ret ?_;refine r0 _ ?_;refine zf ⟨?_⟩
   have hcur:cur=markIncidents kk ll:=by have h:=hM;rw [List.drop_of_length_le (by omega),markIncidents,List.append_nil,List.take_of_length_le (by omega)] at h;exact h
   have hmk:m=kk+totIncident ll:=by rw [←hK,totIncident_end (by omega)];omega
   rw [←hcur,←hmk]
   exact ret_lent rfl (by simp) rfl rfl (by simp [Blk.kindIs,fillK_fd]) (.inl rfl)
set_option maxHeartbeats 1000000 in
theorem markControl_con (fl:List (ByteArray×Int×Int×Int×Int)) (ins:List (Int×Int×Bool×List ByteArray)) (ws:List (Int×List Int)) (kk:Int) (hl:fl.length≤1048576) (hil:ins.length≤1048576) (hin:∀x∈ins,x.2.2.2.length≤1048576) (hwl:ws.length≤1048576) (hwn:∀x∈ws,x.2.length≤1048576) (hk:0≤kk∧kk≤5000000000000):Con Tryz.prog 21 [.agg [.ref 0,.ref 1,.ref 2],.int .i64 kk] [.arr (fl.map (fun t:ByteArray×Int×Int×Int×Int=>V.agg [V.str t.1,V.int .i64 t.2.1,V.int .i64 t.2.2.1,V.int .i64 t.2.2.2.1,V.int .i64 t.2.2.2.2])) .flat,.arr (ins.map (fun t:Int×Int×Bool×List ByteArray=>V.agg [V.int .i64 t.1,V.int .i64 t.2.1,V.bool t.2.2.1,V.sl (t.2.2.2.map V.str)])) (fillK ins.length),.arr (ws.map (fun t:Int×List Int=>V.agg [V.int .i64 t.1,V.sl (t.2.map (V.int .i64))])) (fillK ws.length)] (.int .i64 (((kk+5 * fl.length)+totIncident ins)+totWant ws)) [.arr ((markAppliance kk fl.length).map (fun t:ByteArray×Int×Int×Int×Int=>V.agg [V.str t.1,V.int .i64 t.2.1,V.int .i64 t.2.2.1,V.int .i64 t.2.2.2.1,V.int .i64 t.2.2.2.2])) .flat,.arr ((markIncidents (kk+5 * fl.length) ins).map (fun t:Int×Int×Bool×List ByteArray=>V.agg [V.int .i64 t.1,V.int .i64 t.2.1,V.bool t.2.2.1,V.sl (t.2.2.2.map V.str)])) (fillK ins.length),.arr ((markWants ((kk+5 * fl.length)+totIncident ins) ws).map (fun t:Int×List Int=>V.agg [V.int .i64 t.1,V.sl (t.2.map (V.int .i64))])) (fillK ws.length)]:=by
 have hti:=totIncident_le hin
 have htw:=totWant_le hwn
 have hpi:=totIncident_pos ins
 have hpw:=totWant_pos ws
 refine v_con [.tmp 4] [(82,[0]),(83,[0]),(84,[0])] Tryz.func21 rfl rfl rfl (by simp [Tryz.ntmps21]) ?_
 intro Q0 n0 r0
 simp only [Tryz.ntmps21,envFrom,Nat.reduceAdd]
 have T:=Tys.mk (And.intro Ty.t3 (And.intro Ty.t4 (And.intro Ty.t9 (And.intro Ty.t38 (And.intro Ty.t39 (And.intro Ty.t40 (And.intro Ty.t42 (And.intro Ty.t47 (And.intro Ty.t49 (And.intro Ty.t76 (And.intro Ty.t78 Ty.t95)))))))))))
 have F:=Fc.mk True.intro
 refine v_seqR [1,2] ?_;intro K1 k1;refine zq9 ⟨?_⟩;refine k1 _ ?_;refine zk ⟨?_⟩;refine v_seqR [1,2] ?_;intro K2 k2;refine zq26 ⟨?_⟩;refine zcl (markApplianceS_con fl kk hl (by omega)) ⟨?_⟩;refine zAssign ⟨?_⟩;refine k2 _ ?_;refine zk ⟨?_⟩;refine v_seqR [1,2] ?_;intro K3 k3;refine zq26 ⟨?_⟩;refine zcl (markIncidentS_con ins (kk+5 * fl.length) hil hin (by omega)) ⟨?_⟩;refine zAssign ⟨?_⟩;refine k3 _ ?_;refine zk ⟨?_⟩;refine v_seqR [1] ?_;intro K4 k4;refine zq26 ⟨?_⟩;refine zcl (markWantS_con ws ((kk+5 * fl.length)+totIncident ins) hwl hwn (by omega)) ⟨?_⟩;refine zAssign ⟨?_⟩;refine k4 _ ?_;refine zk ⟨?_⟩;refine v_seqR [4] ?_;intro K5 k5;refine zq8 ⟨?_⟩;refine k5 _ ?_;refine zk ⟨?_⟩;refine v_ret ?_;refine r0 _ ?_;refine zf ⟨?_⟩
 exact ret_lent rfl (by simp) rfl (by simp) (by simp [Blk.kindIs,fillK_fd]) (.inl rfl)
def orNil {α:Type} (b:Bool) (l:List α):List α:=bif b then l else []
theorem orNil_t {α:Type} (l:List α):orNil true l=l:=rfl
theorem orNil_f {α:Type} (l:List α):orNil false l=[]:=rfl
theorem orNil_len {α:Type} {b:Bool} {l:List α} {n:Nat} (h:l.length≤n):(orNil b l).length≤n:=by
  cases b
  · exact Nat.zero_le _
  · exact h
theorem orNil_all {α:Type} {b:Bool} {l:List α} {P:α→Prop} (h:∀x∈l,P x):∀x∈orNil b l,P x:=by
  cases b
  · intro x hx;cases hx
  · exact h
theorem firstP_at {α:Type} {p:α→Bool} {l:List α} (h:0≤firstP p 0 l):∃(k:Nat) (x:α),l[k]? =some x∧p x=true∧firstP p 0 l=(k:Int):=by
  obtain ⟨k,_,h2,_,x,h4,h5⟩:=first_some (p:=p) (l:=l) (i:=0) (by omega)
  exact ⟨k,x,h4,h5,by rw [h2,Nat.zero_add]⟩
theorem findA_at {fl:List (ByteArray×Int×Int×Int×Int)} {s:ByteArray} (h:0≤findA fl s):∃(k:Nat) (x:(ByteArray×Int×Int×Int×Int)),fl[k]? =some x∧x.1=s∧findA fl s=(k:Int):=by
  rcases findA_cases fl s with q | ⟨k,x,h1,h2,h3⟩
  · omega
  · exact ⟨k,x,h2,h3,h1⟩
theorem openF_at {ins:List (Int×Int×Bool×List ByteArray)} {n:Int} (h:0≤openF ins n):∃(k:Nat) (x:(Int×Int×Bool×List ByteArray)),ins[k]? =some x∧(x.1=n∧x.2.2.1=false)∧openF ins n=(k:Int):=by
  obtain ⟨k,x,h1,h2,h3⟩:=firstP_at h
  simp only [Bool.and_eq_true,decide_eq_true_eq,Bool.not_eq_true'] at h2
  exact ⟨k,x,h1,h2,h3⟩
theorem commF_at {ins:List (Int×Int×Bool×List ByteArray)} {s:ByteArray} (h:0≤commF ins s):∃(k:Nat) (x:(Int×Int×Bool×List ByteArray)),ins[k]? =some x∧inS s x.2.2.2=true∧commF ins s=(k:Int):=firstP_at h
structure CtlFacts (n:Int) (ss:List (Int×Int×Int)) (fl:List (ByteArray×Int×Int×Int×Int)) (ins:List (Int×Int×Bool×List ByteArray)) (ws:List (Int×List Int)):Prop where
  ds:DsFacts n ss fl
  town:townB n ss=true
  ins8:incsB ins=true
  node:∀x∈ins,0≤x.2.1∧x.2.1 < n
  names:∀x∈ins,∀s∈x.2.2.2,0≤findA fl s
  busy:∀a∈fl,busyA a=decide (0≤commF ins a.1)
  ws8:ws.length≤8
  want:∀w∈ws,0≤openF ins w.1∧realNeed w.2=true
theorem ctl_facts {n:Int} {ss:List (Int×Int×Int)} {fl:List (ByteArray×Int×Int×Int×Int)} {ins:List (Int×Int×Bool×List ByteArray)} {ws:List (Int×List Int)} (h:ctlB n ss fl ins ws=true):CtlFacts n ss fl ins ws:=by
  simp only [ctlB,ctlH,Bool.and_eq_true,List.all_eq_true,decide_eq_true_eq,Bool.not_eq_true',decide_eq_false_iff_not,List.mem_range] at h
  obtain ⟨⟨⟨⟨⟨h1,h2⟩,h3⟩,h4⟩,h5⟩,h6⟩:=h
  have hd:=ds_facts h1
  refine ⟨hd,?_,h2,fun x hx=> ?_,fun x hx s hs=> ?_,fun a ha=> ?_,by omega,fun w hw=> ?_⟩
  · simp only [dsB,Bool.and_eq_true] at h1;exact h1.1.1
  · have:=h4 x hx
    rw [inP,Bool.and_eq_true,has_facts hd.hn,Bool.and_eq_true,decide_eq_true_eq,decide_eq_true_eq] at this
    exact this.1
  · have:=h4 x hx
    rw [inP,Bool.and_eq_true,List.all_eq_true] at this
    simpa using this.2 s hs
  · have:=h5 a ha
    rw [fleetP] at this
    simpa using this
  · obtain ⟨i,hi,rfl⟩:=List.getElem_of_mem hw
    have:=h6 i hi
    rw [wantP,List.getElem?_eq_getElem hi] at this
    simp only [Bool.and_eq_true,decide_eq_true_eq] at this
    exact ⟨this.1.1,this.1.2⟩
theorem ctl_town {n:Int} {ss:List (Int×Int×Int)} {fl:List (ByteArray×Int×Int×Int×Int)} {ins:List (Int×Int×Bool×List ByteArray)} {ws:List (Int×List Int)} (h:ctlB n ss fl ins ws=true):townB n ss=true:=(ctl_facts h).town
theorem want_need {n:Int} {ss:List (Int×Int×Int)} {fl:List (ByteArray×Int×Int×Int×Int)} {ins:List (Int×Int×Bool×List ByteArray)} {ws:List (Int×List Int)} (h:CtlFacts n ss fl ins ws):∀w∈ws,w.2.length=4∧∀x∈w.2,0≤x∧x≤6:=by
  intro w hw
  have:=(h.want w hw).2
  rw [realNeed,Bool.and_eq_true] at this
  exact need4_facts this.1
theorem new_ctl (n:Int) (ss:List (Int×Int×Int)) (fl:List (ByteArray×Int×Int×Int×Int)):ctlB n ss fl [] []=(dsB n ss fl && !fl.any busyA):=by
  have h1:ctlH n ss fl [] []=dsB n ss fl:=by simp [ctlH,incsB]
  have h2:(fl.all (fleetP []))= !fl.any busyA:=by
    rw [List.not_any_eq_all_not]
    congr 1
    funext a
    simp [fleetP,commF,firstP]
  rw [ctlB,h1,h2]
  simp
def freeTo (fl:List (ByteArray×Int×Int×Int×Int)) (i:Nat):List ByteArray:=((fl.take i).filter availB).map fun a=>a.1
theorem free_yes {fl:List (ByteArray×Int×Int×Int×Int)} {i:Nat} {x:(ByteArray×Int×Int×Int×Int)} (h:fl[i]? =some x) (hp:availB x=true):freeTo fl (i+1)=freeTo fl i++[x.1]:=by
  rw [freeTo,List.take_add_one,h,Option.toList,List.filter_append];simp [hp,freeTo]
theorem free_no {fl:List (ByteArray×Int×Int×Int×Int)} {i:Nat} {x:(ByteArray×Int×Int×Int×Int)} (h:fl[i]? =some x) (hp:availB x=false):freeTo fl (i+1)=freeTo fl i:=by
  rw [freeTo,List.take_add_one,h,Option.toList,List.filter_append];simp [hp,freeTo]
theorem free_len (fl:List (ByteArray×Int×Int×Int×Int)) (i:Nat):(freeTo fl i).length≤i:=by
  rw [freeTo,List.length_map]
  exact Nat.le_trans (List.length_filter_le ..) (by rw [List.length_take];omega)
theorem free_len2 (fl:List (ByteArray×Int×Int×Int×Int)) (i:Nat):(freeTo fl i).length≤fl.length:=by
  rw [freeTo,List.length_map]
  exact Nat.le_trans (List.length_filter_le ..) (by rw [List.length_take];omega)
theorem freeTo_zero (fl:List (ByteArray×Int×Int×Int×Int)):freeTo fl 0=[]:=rfl
def stA (fl:List (ByteArray×Int×Int×Int×Int)) (s:ByteArray):Int:=match fl[(findA fl s).toNat]? with | some a=>a.2.2.2.2 | none=>0
theorem stA_at {fl:List (ByteArray×Int×Int×Int×Int)} {s:ByteArray} {k:Nat} {x:(ByteArray×Int×Int×Int×Int)} (h:findA fl s=(k:Int)) (hx:fl[k]? =some x):stA fl s=x.2.2.2.2:=by
  rw [stA,h,Int.toNat_natCast,hx]
def namesAt (ins:List (Int×Int×Bool×List ByteArray)) (n:Int):List ByteArray:=match ins[(openF ins n).toNat]? with | some x=>x.2.2.2 | none=>[]
theorem namesAt_at {ins:List (Int×Int×Bool×List ByteArray)} {n:Int} {k:Nat} {x:(Int×Int×Bool×List ByteArray)} (h:openF ins n=(k:Int)) (hx:ins[k]? =some x):namesAt ins n=x.2.2.2:=by
  rw [namesAt,h,Int.toNat_natCast,hx]
def atB (n:Int) (ss:List (Int×Int×Int)) (fl:List (ByteArray×Int×Int×Int×Int)) (ins:List (Int×Int×Bool×List ByteArray)) (ws:List (Int×List Int)) (m:Int):Bool:=ctlB n ss fl ins ws && decide (0≤openF ins m)
def statesL (fl:List (ByteArray×Int×Int×Int×Int)) (ins:List (Int×Int×Bool×List ByteArray)) (m:Int):List Int:=(namesAt ins m).map (stA fl)
theorem take_map_step {α β:Type} {f:α→β} {l:List α} {i:Nat} {x:α} (h:l[i]? =some x):(l.take (i+1)).map f=(l.take i).map f++[f x]:=by
  rw [List.take_add_one,h,Option.toList,List.map_append];rfl
def addL:List Int→List Int→List Int
  | a::xs,b::ys=>(a+b)::addL xs ys
  | xs,[]=>xs
  | [],_=>[]
theorem addL_nil:∀l:List Int,addL l []=l
  | []=>rfl
  | _::_=>rfl
theorem addL_len:∀a b:List Int,(addL a b).length=a.length
  | [],[]=>rfl
  | [],_::_=>rfl
  | _::_,[]=>rfl
  | a::xs,b::ys=>by rw [addL,List.length_cons,List.length_cons,addL_len xs ys]
theorem addL_step:∀{acc l:List Int} {k:Nat} {a b:Int},acc[k]? =some a→l[k]? =some b→(addL acc (l.take k))[k]? =some a∧(addL acc (l.take k)).set k (a+b)=addL acc (l.take (k+1))
  | [],_,_,_,_,h,_=>by simp at h
  | _::_,[],_,_,_,_,h=>by simp at h
  | x::acc,y::l,0,a,b,h,k=>by
    simp at h k
    subst h k
    refine ⟨by simp [addL],?_⟩
    simp [addL,addL_nil]
  | x::acc,y::l,k+1,a,b,h,q=>by
    obtain ⟨h1,h2⟩:=addL_step (acc:=acc) (l:=l) (k:=k) (a:=a) (b:=b) (by simpa using h) (by simpa using q)
    refine ⟨by simpa [addL] using h1,?_⟩
    rw [List.take_succ_cons,addL,List.set_cons_succ,h2,List.take_succ_cons,addL]
theorem addL_bound:∀{acc l:List Int} {A B:Int},0≤B→(∀x∈acc,0≤x∧x≤A)→(∀x∈l,0≤x∧x≤B)→∀x∈addL acc l,0≤x∧x≤A+B
  | [],[],_,_,_,_,_,x,hx=>by cases hx
  | [],_::_,_,_,_,_,_,x,hx=>by cases hx
  | a::acc,[],A,B,hB,h1,_,x,hx=>by
    have:=h1 x hx;omega
  | a ::acc,b::l,A,B,hB,h1,h2,x,hx=>by
    rcases List.mem_cons.1 hx with e | e
    · have q1:=h1 a (List.mem_cons_self ..)
      have q2:=h2 b (List.mem_cons_self ..)
      subst e;omega
    · exact addL_bound hB (fun y hy=>h1 y (List.mem_cons_of_mem _ hy)) (fun y hy=>h2 y (List.mem_cons_of_mem _ hy)) x e
def sumTo (ws:List (Int×List Int)) (i:Nat):List Int:=(ws.take i).foldl (fun acc w=>addL acc w.2) [0,0,0,0]
theorem sumTo_step {ws:List (Int×List Int)} {i:Nat} {w:(Int×List Int)} (h:ws[i]? =some w):sumTo ws (i+1)=addL (sumTo ws i) w.2:=by
  rw [sumTo,List.take_add_one,h,Option.toList,List.foldl_append];rfl
theorem sumTo_len (ws:List (Int×List Int)):∀i,(sumTo ws i).length=4
  | 0=>rfl
  | i+1=>by
    cases h:ws[i]? with
    | none=>rw [sumTo,List.take_add_one,h];simp only [Option.toList,List.append_nil];exact sumTo_len ws i
    | some w=>rw [sumTo_step h,addL_len,sumTo_len ws i]
theorem sumTo_bound {ws:List (Int×List Int)} (hw:∀w∈ws,w.2.length=4∧∀x∈w.2,0≤x∧x≤6):∀i,∀x∈sumTo ws i,0≤x∧x≤6 * (i:Int)
  | 0,x,hx=>by
    have:sumTo ws 0=[0,0,0,0]:=rfl
    rw [this] at hx
    simp at hx
    omega
  | i + 1,x,hx=>by
    cases h:ws[i]? with
    | none=>
      have e:sumTo ws (i+1)=sumTo ws i:=by rw [sumTo,List.take_add_one,h];simp only [Option.toList,List.append_nil];rfl
      rw [e] at hx
      have:=sumTo_bound hw i x hx
      omega
    | some w=>
      rw [sumTo_step h] at hx
      have:=addL_bound (by omega) (sumTo_bound hw i) (hw w (List.mem_of_getElem? h)).2 x hx
      omega
def arrB (fl:List (ByteArray×Int×Int×Int×Int)) (s:ByteArray):Bool:=decide (0≤findA fl s) && decide (stA fl s=2)
def arrF (fl:List (ByteArray×Int×Int×Int×Int)) (ins:List (Int×Int×Bool×List ByteArray)) (s:ByteArray):List (ByteArray×Int×Int×Int×Int):=match fl[(findA fl s).toNat]?,ins[(commF ins s).toNat]? with
  | some a,some x=>fl.set (findA fl s).toNat (a.1,a.2.1,x.2.1,a.2.2.2.1,3)
  | _,_=>fl
theorem arrF_at {fl:List (ByteArray×Int×Int×Int×Int)} {ins:List (Int×Int×Bool×List ByteArray)} {s:ByteArray} {k m:Nat} {a:(ByteArray×Int×Int×Int×Int)} {x:(Int×Int×Bool×List ByteArray)} (h1:findA fl s=(k:Int)) (h2:fl[k]? =some a) (h3:commF ins s=(m:Int)) (h4:ins[m]? =some x):arrF fl ins s=fl.set k (a.1,a.2.1,x.2.1,a.2.2.2.1,3):=by
  rw [arrF,h1,h3,Int.toNat_natCast,Int.toNat_natCast,h2,h4]
theorem arrF_len (fl:List (ByteArray×Int×Int×Int×Int)) (ins:List (Int×Int×Bool×List ByteArray)) (s:ByteArray):(arrF fl ins s).length=fl.length:=by
  rw [arrF]
  split
  · rw [List.length_set]
  · rfl
theorem arr_comm {n:Int} {ss:List (Int×Int×Int)} {fl:List (ByteArray×Int×Int×Int×Int)} {ins:List (Int×Int×Bool×List ByteArray)} {ws:List (Int×List Int)} (h:CtlFacts n ss fl ins ws) {s:ByteArray} {k:Nat} {a:(ByteArray×Int×Int×Int×Int)} (h1:fl[k]? =some a) (h2:a.1=s) (h3:a.2.2.2.2=2):0≤commF ins s:=by
  have:=h.busy a (List.mem_of_getElem? h1)
  rw [busyA,h3,h2] at this
  simpa using this.symm
theorem str_digit {n:Nat} (h:n < 10):strOf [IntKind.u8.wrap (48+(n:Int))]=⟨#[UInt8.ofNat (48+n)]⟩:=by
  have e:IntKind.u8.wrap (48+(n:Int))=((48+n:Nat):Int):=by
    simp only [IntKind.wrap,IntKind.bits,IntKind.signed]
    simp
    omega
  rw [e]
  rfl
set_option maxHeartbeats 1000000 in
theorem l1Num_step (n:Nat) (hn:n < 1000000000) (ih:∀m,m < n→Con Tryz.prog 58 [.int .i64 (Nat.cast m)] [] (.str (numB m)) []):Con Tryz.prog 58 [.int .i64 (Nat.cast n)] [] (.str (numB n)) []:=by
 refine v_con [.tmp 2] [] Tryz.func58 rfl rfl rfl (by simp [Tryz.ntmps58]) ?_
 intro Q0 n0 r0
 simp only [Tryz.ntmps58,envFrom,Nat.reduceAdd]
 have T:=Tys.mk (And.intro Ty.t3 (And.intro Ty.t5 (And.intro Ty.t9 Ty.t59)))
 have F:=Fc.mk True.intro
 refine v_seqR [0] ?_;intro K1 k1;refine zAssign ⟨?_⟩;refine k1 _ ?_;refine zk ⟨?_⟩;refine v_seq ?_;intro Q2 n2 e2 r2;refine v_seqR [0,4] ?_;intro K3 k3;refine zq13 ⟨?_⟩;refine k3 _ ?_;refine zk ⟨?_⟩;refine v_condS _ rfl ?_ ?_
 ·intro hc0
  have h10:n < 10:=by omega
  refine v_seqR [2] ?_;intro K5 k5;refine zMove ⟨?_⟩;refine zBinOpW ⟨?_⟩;refine zConvert ⟨?_⟩;refine zBuildSlice ⟨?_⟩;refine zConvert ⟨?_⟩;refine zAssign ⟨?_⟩;refine k5 _ ?_;refine zk ⟨?_⟩;refine v_ret ?_;refine r2 _ ?_;refine r0 _ ?_;refine zf ⟨?_⟩
  exact ret_pure rfl (by rw [str_digit h10,numB_lt h10]) (.inl rfl)
 ·intro hc0
  have h10:¬n < 10:=by omega
  have hq:(n:Int).tdiv 10=((n / 10:Nat):Int):=rfl
  have hm:(n:Int).tmod 10=((n % 10:Nat):Int):=rfl
  have hm10:n % 10 < 10:=Nat.mod_lt _ (by omega)
  have hsz:(numB (n / 10)).size≤9:=numB_size 9 (n / 10) (by omega) (by omega)
  have hst:=str_digit hm10
  have hz:∀b:UInt8,(ByteArray.mk #[b]).size=1:=fun _=>rfl
  refine v_skip ?_;refine n2 _ _ (weak_keep [0] _) ?_;refine zk ⟨?_⟩;refine v_seq ?_;intro Q6 n6 e6 r6;refine v_draw (by kernel_rfl) ?_;intro K7 q7 k7
  show aAny _ _ _ _ 11 (Array.replicate 11 false) _
  have F:=Fc.mk (And.intro hq (And.intro hm (And.intro hst hz)))
  refine zdMove q7 true 0 10 ?_;refine zdBinOpW q7 true 1 11 ?_;refine zdMove q7 true 3 13 ?_;refine zdBinOp q7 true 4 14 ?_;refine zdBinOpW q7 true 5 15 ?_;refine zdConvert q7 true 6 16 ?_;refine aAny_two 2 7 rfl rfl (by kernel_rfl) ?_ ?_
  ·refine zsc (ih (n / 10) (by omega)) ⟨?_⟩
   refine zoBuildSlice 7 ⟨?_⟩;refine zdConvertY q7 true 8 18 ?_;refine zdBinOpW q7 true 9 19 ?_;refine zoAssign 10 ⟨?_⟩;refine aAny_done (by kernel_rfl) ?_;refine k7 _ ?_;refine n6 _ _ (weak_keep [2] _) ?_;refine zk ⟨?_⟩;refine v_ret ?_;refine r0 _ ?_;refine zf ⟨?_⟩
   exact ret_pure rfl (by rw [numB_ge h10]) (.inl rfl)
  ·refine zsBuildSlice ⟨?_⟩
   refine zdConvertY q7 true 8 18 ?_;refine zoc 2 (ih (n / 10) (by omega)) ⟨?_⟩;refine zdBinOpW q7 true 9 19 ?_;refine zoAssign 10 ⟨?_⟩;refine aAny_done (by kernel_rfl) ?_;refine k7 _ ?_;refine n6 _ _ (weak_keep [2] _) ?_;refine zk ⟨?_⟩;refine v_ret ?_;refine r0 _ ?_;refine zf ⟨?_⟩
   exact ret_pure rfl (by rw [numB_ge h10]) (.inl rfl)
theorem l1Num_con (n:Int) (h:0≤n∧n < 1000000000):Con Tryz.prog 58 [.int .i64 n] [] (.str (numB n.toNat)) []:=by
  have key:∀k:Nat,k < 1000000000→Con Tryz.prog 58 [.int .i64 (Nat.cast k)] [] (.str (numB k)) []:=by
    intro k
    induction k using Nat.strongRecOn with
    | ind k ih=>exact fun hk=>l1Num_step k hk fun m hm=>ih m hm (by omega)
  obtain ⟨m,hm⟩:∃m:Nat,n=(m:Int):=⟨n.toNat,by omega⟩
  subst hm
  rw [Int.toNat_natCast]
  exact key m (by omega)
theorem Tryz.pow10:(Tryz.prog.globalNamed "internal/strconv.uint64pow10").isSome=true:=by kernel_rfl
theorem itoa_con (n:Int) (h:0≤n∧n < 1000000000):Con Tryz.prog 68 [.int .i64 n] [] (.str (numB n.toNat)) []:=by
  rw [←itoa_nat h.1]
  obtain ⟨g,hg⟩:=Option.isSome_iff_exists.1 Tryz.pow10
  exact con_int1 ⟨_,Tryz.func68,rfl,rfl⟩ (fun w μ=>.str _) (fun w ht=>Tryz.strconv_Itoa n (by omega) (by omega) w (tabIs_of hg ht))
end Go.Proofs.YtaefoaghpehbpaaGreatDoor
