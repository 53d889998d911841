/- What functions compute. No condition. -/
import Derived.Test.YtmhaafinhpopmaaGreatDoorX19
set_option linter.unusedSimpArgs false
set_option linter.unusedVariables false
set_option linter.defProp false
namespace Go.Proofs.YtmhaafinhpopmaaGreatDoor
open Go Go.Vm
set_option maxHeartbeats 8000000
def markIncidents:Int→List TI→List TI
  | _,[]=>[]
  | k,t::l=>(k,k+1,decide (Int.tmod (k+1+1) 3=0),markStr (k+1+1+1) t.2.2.2.length)::markIncidents (k+1+1+1+t.2.2.2.length) l
def totIncident:List TI→Int
  | []=>0
  | t::l=>3+t.2.2.2.length+totIncident l
theorem totIncident_pos:∀l:List TI,0≤totIncident l
  | []=>Int.le_refl _
  | t::l=>by have:=totIncident_pos l;rw [totIncident];omega
theorem totIncident_le:∀{l:List TI},(∀t∈l,t.2.2.2.length≤1048576)→totIncident l≤1048580 * l.length
  | [],_=>Int.le_refl _
  | t::l,h=>by
    have h1:=totIncident_le (l:=l) fun x hx=>h x (qli _ hx)
    have h2:=h t (qlg ..);rw [totIncident,ql1];omega
theorem totIncident_drop {l:List TI} {i:Nat} {t:TI} (h:l[i]? =some t):totIncident (l.drop i)=3+t.2.2.2.length+totIncident (l.drop (i+1)):=by
  rw [getElem_drop_cons h,totIncident]
theorem totIncident_end {l:List TI} {i:Nat} (h:l.length≤i):totIncident (l.drop i)=0:=by
  rw [qle h];rfl
theorem markIncidents_len:∀(l:List TI) (k:Int),(markIncidents k l).length=l.length
  | [],_=>rfl
  | t::l,k=>by rw [markIncidents,ql1,ql1,markIncidents_len l]
theorem ic_get {cur:List TI} {i:Nat} {t:TI} (h:cur[i]? =some t):(openX (fun t:TI=>[V.int .i64 t.1,V.int .i64 t.2.1,V.bool t.2.2.1]) (fun t:TI=>t.2.2.2) 3 1 cur).getD i .any=V.agg [V.int .i64 t.1,V.int .i64 t.2.1,V.bool t.2.2.1,rowV (1+4 * i+3) t.2.2.2]:=by
  rw [qlk,openX_get h];rfl
theorem ic_same {cur:List TI} {i:Nat} {t u:TI} (h1:[V.int .i64 t.1,V.int .i64 t.2.1,V.bool t.2.2.1]=[V.int .i64 u.1,V.int .i64 u.2.1,V.bool u.2.2.1]) (h:t.2.2.2.isEmpty=u.2.2.2.isEmpty):(openX (fun t:TI=>[V.int .i64 t.1,V.int .i64 t.2.1,V.bool t.2.2.1]) (fun t:TI=>t.2.2.2) 3 1 (cur.set i t))=(openX (fun t:TI=>[V.int .i64 t.1,V.int .i64 t.2.1,V.bool t.2.2.1]) (fun t:TI=>t.2.2.2) 3 1 (cur.set i u)):=by
  rw [←openX_set (pre:=(fun t:TI=>[V.int .i64 t.1,V.int .i64 t.2.1,V.bool t.2.2.1])) (sl:=(fun t:TI=>t.2.2.2)) (n:=3) (t:=t),←openX_set (pre:=(fun t:TI=>[V.int .i64 t.1,V.int .i64 t.2.1,V.bool t.2.2.1])) (sl:=(fun t:TI=>t.2.2.2)) (n:=3) (t:=u),openE,openE,rowV,rowV,h1,h]
theorem ic_news {b:Blk} {cur:List TI} {i:Nat} {t:TI} (h:cur[i]? =some t) (hne:t.2.2.2.isEmpty=false):(b::(newsC V.str ((cur).flatMap (eltC (fun t:TI=>[V.int .i64 t.1,V.int .i64 t.2.1,V.bool t.2.2.1]) (fun t:TI=>t.2.2.2)))))[1+4 * i+3]? =some (.arr (t.2.2.2.map V.str) .flat):=by
  rw [show 1+4 * i+3=(4 * i+3)+1 by omega,List.getElem?_cons_succ,newsX_get (pre:=(fun t:TI=>[V.int .i64 t.1,V.int .i64 t.2.1,V.bool t.2.2.1])) (sl:=(fun t:TI=>t.2.2.2)) (n:=3) (fun _=>rfl) h];simp [rowB,hne]
theorem ic_cells:∀(l:List TI) (N:Nat),∀x∈(openX (fun t:TI=>[V.int .i64 t.1,V.int .i64 t.2.1,V.bool t.2.2.1]) (fun t:TI=>t.2.2.2) 3 N l),x.cells.length=4
  | [],_,x,h=>by cases h
  | t::l,N,x,h=>by
    rcases qly.1 h with e | e
    · subst e;rfl
    · exact ic_cells l _ x e
theorem ic_sz {ll:List TI} {N:Nat}:∀n,(∀x∈ll.map (fun t:TI=>V.agg [V.int .i64 t.1,V.int .i64 t.2.1,V.bool t.2.2.1,V.sl (t.2.2.2.map V.str)]),x.cells.length=n)→∀x∈(openX (fun t:TI=>[V.int .i64 t.1,V.int .i64 t.2.1,V.bool t.2.2.1]) (fun t:TI=>t.2.2.2) 3 N ll),x.cells.length=n:=by
  intro n h x hx;cases ll with
  | nil=>cases hx
  | cons t l=>
    rw [ic_cells _ _ x hx,←h _ (qlg ..)];rfl
theorem ic_sz2 {ll:List TI} {N:Nat}:∀n,(∀x∈(openX (fun t:TI=>[V.int .i64 t.1,V.int .i64 t.2.1,V.bool t.2.2.1]) (fun t:TI=>t.2.2.2) 3 N ll),x.cells.length=n)→∀x∈ll.map (fun t:TI=>V.agg [V.int .i64 t.1,V.int .i64 t.2.1,V.bool t.2.2.1,V.sl (t.2.2.2.map V.str)]),x.cells.length=n:=by
  intro n h x hx;cases ll with
  | nil=>cases hx
  | cons t l=>
    have h1:=h _ (qlg ..);obtain ⟨u,_,rfl⟩:=List.mem_map.1 hx;rw [←h1];rfl
theorem ic_closed (ll:List TI):(ll.map (fun t:TI=>V.agg [V.int .i64 t.1,V.int .i64 t.2.1,V.bool t.2.2.1,V.sl (t.2.2.2.map V.str)])).flatMap V.cells=(ll.flatMap (eltC (fun t:TI=>[V.int .i64 t.1,V.int .i64 t.2.1,V.bool t.2.2.1]) (fun t:TI=>t.2.2.2))).map (cellR V.str):=elt_closed (pre:=(fun t:TI=>[V.int .i64 t.1,V.int .i64 t.2.1,V.bool t.2.2.1])) (sl:=(fun t:TI=>t.2.2.2)) (f:=V.str) ll
theorem ic_opened (ll:List TI) (N:Nat):(openX (fun t:TI=>[V.int .i64 t.1,V.int .i64 t.2.1,V.bool t.2.2.1]) (fun t:TI=>t.2.2.2) 3 N ll).flatMap V.cells=openC N (ll.flatMap (eltC (fun t:TI=>[V.int .i64 t.1,V.int .i64 t.2.1,V.bool t.2.2.1]) (fun t:TI=>t.2.2.2))):=elt_opened (pre:=(fun t:TI=>[V.int .i64 t.1,V.int .i64 t.2.1,V.bool t.2.2.1])) (sl:=(fun t:TI=>t.2.2.2)) (n:=3) (fun _=>rfl) ll N
theorem ic_plain:∀t:TI,∀v∈(fun t:TI=>[V.int .i64 t.1,V.int .i64 t.2.1,V.bool t.2.2.1]) t,v.only (fun _=>false)=true∧v.noSl=true∧v.cells=[v]:=by
  intro t v hv;simp only [List.mem_cons,List.not_mem_nil,or_false] at hv;rcases hv with rfl | rfl | rfl<;>exact ⟨rfl,rfl,rfl⟩
theorem ic_news2 {cur:List TI} {i:Nat} {t u:TI} (h:i < cur.length) (hne:u.2.2.2.isEmpty=false):(newsC V.str (((cur.set i t)).flatMap (eltC (fun t:TI=>[V.int .i64 t.1,V.int .i64 t.2.1,V.bool t.2.2.1]) (fun t:TI=>t.2.2.2)))).set (1+4 * i+2) (.arr (u.2.2.2.map V.str) .flat)=(newsC V.str (((cur.set i u)).flatMap (eltC (fun t:TI=>[V.int .i64 t.1,V.int .i64 t.2.1,V.bool t.2.2.1]) (fun t:TI=>t.2.2.2)))):=by
  have q:=newsX_set (pre:=(fun t:TI=>[V.int .i64 t.1,V.int .i64 t.2.1,V.bool t.2.2.1])) (sl:=(fun t:TI=>t.2.2.2)) (f:=V.str) (n:=3) (fun _=>rfl) (l:=cur.set i t) (i:=i) (t:=u) (by rw [qlh];exact h);rw [List.set_set] at q;rw [show rowB V.str ((fun t:TI=>t.2.2.2) u)=.arr (u.2.2.2.map V.str) .flat by simp [rowB,hne],show (3+1) * i+3=1+4 * i+2 by omega] at q;exact q
set_option maxRecDepth 8000 in
theorem markIncidentS_con (ll:List TI) (kk:Int) (hl:ll.length≤1048576) (hls:∀t∈ll,t.2.2.2.length≤1048576) (hk:0≤kk∧kk≤10000000000000):Con Tryz.prog 99 [.ref 0,.int .i64 kk] [.arr (ll.map (fun t:TI=>V.agg [V.int .i64 t.1,V.int .i64 t.2.1,V.bool t.2.2.1,V.sl (t.2.2.2.map V.str)])) (fillK ll.length)] (.int .i64 (kk+totIncident ll)) [.arr ((markIncidents kk ll).map (fun t:TI=>V.agg [V.int .i64 t.1,V.int .i64 t.2.1,V.bool t.2.2.1,V.sl (t.2.2.2.map V.str)])) (fillK ll.length)]:=by
 refine v_con [.tmp 4] [(42,[0])] Tryz.func99 rfl rfl rfl (by simp [Tryz.ntmps99]) ?_;intro Q0 n0 r0;simp only [Tryz.ntmps99,envFrom,Nat.reduceAdd];have T:=Tys.mk (ai Ty.t3 (ai Ty.t4 (ai Ty.t9 (ai Ty.t59 (ai Ty.t64 Ty.t154)))));have F:=Fc.mk True.intro;refine yR [0,1] ⟨?_⟩;refine v_seq ?_;intros;refine yR [0,1,5] ⟨?_⟩;refine v_block ?_;intros;refine v_loop (fun p=>⟨[(0,.ref 0),(1,.int .i64 p.2.1),(5,.int .i64 (Nat.cast p.1))],[.arr (p.2.2.map (fun t:TI=>V.agg [V.int .i64 t.1,V.int .i64 t.2.1,V.bool t.2.2.1,V.sl (t.2.2.2.map V.str)])) (fillK ll.length)],false,43,0⟩) (fun p=>p.1≤ll.length∧0≤p.2.1∧p.2.2.length=ll.length∧p.2.1+totIncident (ll.drop p.1)=kk+totIncident ll∧p.2.2.drop p.1=ll.drop p.1∧p.2.2.take p.1++markIncidents p.2.1 (ll.drop p.1)=markIncidents kk ll) (fun p=>ll.length - p.1) ((0,kk,ll):Nat×Int×List TI) ?_ ?_ ?_
 ·refine weak_bothS [0,1,5] [0] ⟨?_⟩;rfl
 ·exact ⟨qld _,hk.1,rfl,by simp,rfl,by simp⟩
 ·rintro ⟨i,m,cur⟩ hok5 Q5 n5 e5 r5;obtain ⟨hi1,hm0,hL,hK,hD,hM⟩:=hok5;simp only [] at hi1 hm0 hL hK hD hM⊢;refine v_seq ?_;intros;refine yR [0,1,5,9] ⟨?_⟩;refine v_condS _ rfl ?_ ?_
  ·intro hc0;have hclen:(cur.map (fun t:TI=>V.agg [V.int .i64 t.1,V.int .i64 t.2.1,V.bool t.2.2.1,V.sl (t.2.2.2.map V.str)])).length=ll.length:=by rw [ql9,hL]
   have hlt:i < ll.length:=by omega
   have hkd:fillK ll.length=.deep:=by unfold fillK;rw [if_neg (by omega)]
   obtain ⟨⟨x0,x1,x2,x3⟩,hx⟩:∃x,ll[i]? =some x:=⟨_,qla hlt⟩;have hll:=hls _ (qlb hx);have htd:=totIncident_drop hx;simp only [] at hll htd;have hpos:=totIncident_pos (ll.drop (i+1));have htt:=totIncident_le hls;have hcx:cur[i]? =some (x0,x1,x2,x3):=by have h:=congrArg (fun z=>z[0]?) hD;simpa [List.getElem?_drop,hx] using h
   have hsm:(cur.map (fun t:TI=>V.agg [V.int .i64 t.1,V.int .i64 t.2.1,V.bool t.2.2.1,V.sl (t.2.2.2.map V.str)])).set i (V.agg [V.int .i64 m,V.int .i64 (m+1),V.bool (decide (Int.tmod (m+1+1) 3=0)),V.sl (x3.map V.str)])=(cur.set i (m,m+1,decide (Int.tmod (m+1+1) 3=0),x3)).map (fun t:TI=>V.agg [V.int .i64 t.1,V.int .i64 t.2.1,V.bool t.2.2.1,V.sl (t.2.2.2.map V.str)]):=by have q:=List.map_set (f:=(fun t:TI=>V.agg [V.int .i64 t.1,V.int .i64 t.2.1,V.bool t.2.2.1,V.sl (t.2.2.2.map V.str)])) (l:=cur) (i:=i) (a:=(m,m+1,decide (Int.tmod (m+1+1) 3=0),x3));exact q.symm
   have hc1:(cur.set i (m,m+1,decide (Int.tmod (m+1+1) 3=0),x3))[i]? =some (m,m+1,decide (Int.tmod (m+1+1) 3=0),x3):=qlm (by omega);have hrow:=ic_get hc1;simp only [] at hrow;have hoc:=openX_len (pre:=(fun t:TI=>[V.int .i64 t.1,V.int .i64 t.2.1,V.bool t.2.2.1])) (sl:=(fun t:TI=>t.2.2.2)) (n:=3) (cur.set i (m,m+1,decide (Int.tmod (m+1+1) 3=0),x3)) 1;have hcl1:(cur.set i (m,m+1,decide (Int.tmod (m+1+1) 3=0),x3)).length=ll.length:=by rw [qlh,hL]
   have hSd:=Sd.mk (fun c=>ic_cells c 1);rcases Bool.eq_false_or_eq_true x3.isEmpty with he | he
   ·skip;have hl0:x3=[]:=List.isEmpty_iff.1 he;have hrv:rowV (1+4 * i+3) x3=.sl []:=by rw [hl0];rfl
    refine zn [0,1,5] ⟨?_⟩;refine v_seq ?_;intro Q9 n9 e9 r9;refine v_block ?_;intro Q10 n10 x10 e10 r10;have F:=Fc.mk (ai hkd (ai hclen (ai (gdm hcx) (ai hsm (ai hrow (ai hoc (ai hcl1 (ai @getD_set (ai hlt (ai @qlh.{0} (ai @List.set_set.{0} hrv)))))))))));refine yR [0,1,5] ⟨?_⟩;refine yR [0,1,5] ⟨?_⟩;refine yR [0,1,5] ⟨?_⟩;refine yR [0,1,5] ⟨?_⟩;refine yR [0,1,5] ⟨?_⟩;refine v_seq ?_;intro Q16 n16 e16 r16;refine yV ⟨?_⟩;apply n16
    ·apply weak_trans (weak_keep [0,1,5] _);simp only [keep_mk,keepE_nil,keepE_cons,look_cons,look_nil,Nat.reduceEqDiff,reduceIte];exact weak_openC (f:=V.str) 0 ((cur.set i (m,m+1,decide (Int.tmod (m+1+1) 3=0),x3)).map (fun t:TI=>V.agg [V.int .i64 t.1,V.int .i64 t.2.1,V.bool t.2.2.1,V.sl (t.2.2.2.map V.str)])) (openX (fun t:TI=>[V.int .i64 t.1,V.int .i64 t.2.1,V.bool t.2.2.1]) (fun t:TI=>t.2.2.2) 3 1 (cur.set i (m,m+1,decide (Int.tmod (m+1+1) 3=0),x3))) ((cur.set i (m,m+1,decide (Int.tmod (m+1+1) 3=0),x3)).flatMap (eltC (fun t:TI=>[V.int .i64 t.1,V.int .i64 t.2.1,V.bool t.2.2.1]) (fun t:TI=>t.2.2.2))) .deep rfl (ic_closed _) (ic_opened _ 1) (by simp [openX_len]) ic_sz (elt_plain ic_plain _) (.inr rfl) rfl (fun _=>rfl)
    try simp only [atSlot_cons,atSlot_nil,Nat.reduceEqDiff,reduceIte,List.set_cons_zero,List.set_cons_succ]
    refine v_region ?_;intro K18 k18;refine zq4 ⟨?_⟩;refine zIndexAddr ⟨?_⟩;refine zq9 ⟨?_⟩;refine zMove ⟨?_⟩;refine v_op ?_;intro K k;simp only [zE,zM,aStepM,optable,set_some,Nat.reduceEqDiff,reduceIte,Nat.reduceLT,implies_true,forall_const,reduceCtorEq,V.ofValue,V.ofScalar,V.un,V.gd,aExec,lentIds,lendOf,Tryz.underlying3,Ty.c3,Ty.a3,Ty.b3,Ty.s3,Tryz.underlying9,Ty.c9,Ty.a9,Ty.b9,Ty.s9,Tryz.underlying59,Ty.c59,Ty.a59,Ty.b59,Ty.s59];repeat (refine ai (by first | rfl | (intros;simp_all;done)) ?_)
    first | refine aCall_lent _ (markStringS_con x3 (m+1+1+1) hll (by omega)) (by first | rfl | (simp only [toArgs,toArg,toCell,toCells,idx,row_mk,List.getElem?_cons_zero,List.getElem?_cons_succ,Option.bind_some,Option.map_some,Blk.row,fillK_mix,thK_mix,flat_mix,deep_mix,thin_mix,shal_mix,cond_true,List.map_take];done) | (simp [toArgs,toArg,toCell,toCells,idx,row_mk,Blk.row,fillK_mix,thK_mix,flat_mix,deep_mix,thin_mix,shal_mix,Nat.beq_refl];done)) hO ⟨by simp [Blk.kindIs,fillK_mix,thK_mix],by simp⟩ (by first | exact .inl rfl | exact .inr (by simp [Blk.kindIs])) ⟨rfl,by simp [Blk.kindIs,fillK_fd,thK_fd]⟩ ?_ | refine aCall_new (markStr0_con (m+1+1+1)) (by first | rfl | (simp only [toArgs,toArg,toCell,toCells,idx,row_mk,List.getElem?_cons_zero,List.getElem?_cons_succ,Option.bind_some,Option.map_some,Blk.row,fillK_mix,thK_mix,flat_mix,deep_mix,thin_mix,shal_mix,cond_true,List.map_take];done) | (simp [toArgs,toArg,toCell,toCells,idx,row_mk,Blk.row,fillK_mix,thK_mix,flat_mix,deep_mix,thin_mix,shal_mix,Nat.beq_refl];done)) (by first | exact .inl ⟨rfl,by simp [Blk.kindIs,fillK_fd,thK_fd]⟩ | exact .inr (by simp [V.cold])) ?_
    refine k _ ?_;clear k K;simp only [zY,zW,set_some,Nat.reduceEqDiff,reduceIte,rho_one,rho_s,V.ren,V.renL,List.set_cons_zero,List.set_cons_succ,Nat.reduceAdd];refine zAssign ⟨?_⟩;refine k18 _ ?_;refine n10 _ ?_;apply n9
    ·apply weak_trans (weak_keep [0,1,5] _);simp only [keep_mk,keepE_nil,keepE_cons,look_cons,look_nil,Nat.reduceEqDiff,reduceIte];exact weak_closeC (A:=[.arr (openX (fun t:TI=>[V.int .i64 t.1,V.int .i64 t.2.1,V.bool t.2.2.1]) (fun t:TI=>t.2.2.2) 3 1 (cur.set i (m,m+1,decide (Int.tmod (m+1+1) 3=0),x3))) .mix]) 0 ((cur.set i (m,m+1,decide (Int.tmod (m+1+1) 3=0),x3)).map (fun t:TI=>V.agg [V.int .i64 t.1,V.int .i64 t.2.1,V.bool t.2.2.1,V.sl (t.2.2.2.map V.str)])) (openX (fun t:TI=>[V.int .i64 t.1,V.int .i64 t.2.1,V.bool t.2.2.1]) (fun t:TI=>t.2.2.2) 3 1 (cur.set i (m,m+1,decide (Int.tmod (m+1+1) 3=0),x3))) ((cur.set i (m,m+1,decide (Int.tmod (m+1+1) 3=0),x3)).flatMap (eltC (fun t:TI=>[V.int .i64 t.1,V.int .i64 t.2.1,V.bool t.2.2.1]) (fun t:TI=>t.2.2.2))) rfl rfl (ic_closed _) (ic_opened _ 1) (by simp [openX_len]) ic_sz2 (elt_plain ic_plain _)
    try simp only [atSlot_cons,atSlot_nil,Nat.reduceEqDiff,reduceIte,List.set_cons_zero,List.set_cons_succ]
    refine yV ⟨?_⟩;refine n5 _ (i+1,m+1+1+1,cur.set i (m,m+1,decide (Int.tmod (m+1+1) 3=0),x3)) ?_ ?_ ?_
    ·refine weak_bothS [0,1,5] [0] ⟨?_⟩;first | (simp only [hkd];rfl) | trace_state
    ·exact ⟨hlt,by show 0≤m+1+1+1;omega,by show (cur.set i _).length=_;rw [qlh];exact hL,by subst hl0;show m+1+1+1+totIncident (ll.drop (i+1))=_;rw [←hK,htd];(try simp);omega,by show (cur.set i _).drop (i+1)=_;rw [List.drop_set_of_lt (by omega)];have h:=congrArg (List.drop 1) hD;simpa [List.drop_drop,Nat.add_comm] using h,by subst hl0;show (cur.set i _).take (i+1)++markIncidents (m+1+1+1) _=_;rw [←hM,getElem_drop_cons hx,markIncidents,set_cons_eq (by omega)];simp [markStr,markG]⟩
    ·show _ < _;show ll.length - (i+1) < ll.length - i;omega
   ·skip;have hrv:rowV (1+4 * i+3) x3=.ref (1+4 * i+3):=by rw [rowV,he];rfl
    have hO:=ic_news (b:=.arr (openX (fun t:TI=>[V.int .i64 t.1,V.int .i64 t.2.1,V.bool t.2.2.1]) (fun t:TI=>t.2.2.2) 3 1 (cur.set i (m,m+1,decide (Int.tmod (m+1+1) 3=0),x3))) .mix) hc1 he;refine zn [0,1,5] ⟨?_⟩;refine v_seq ?_;intro Q20 n20 e20 r20;refine v_block ?_;intro Q21 n21 x21 e21 r21;have F:=Fc.mk (ai hkd (ai hclen (ai (gdm hcx) (ai hsm (ai hrow (ai hoc (ai hcl1 (ai @getD_set (ai hlt (ai @qlh.{0} (ai @List.set_set.{0} hrv)))))))))));refine yR [0,1,5] ⟨?_⟩;refine yR [0,1,5] ⟨?_⟩;refine yR [0,1,5] ⟨?_⟩;refine yR [0,1,5] ⟨?_⟩;refine yR [0,1,5] ⟨?_⟩;refine v_seq ?_;intro Q27 n27 e27 r27;refine yV ⟨?_⟩;apply n27
    ·apply weak_trans (weak_keep [0,1,5] _);simp only [keep_mk,keepE_nil,keepE_cons,look_cons,look_nil,Nat.reduceEqDiff,reduceIte];exact weak_openC (f:=V.str) 0 ((cur.set i (m,m+1,decide (Int.tmod (m+1+1) 3=0),x3)).map (fun t:TI=>V.agg [V.int .i64 t.1,V.int .i64 t.2.1,V.bool t.2.2.1,V.sl (t.2.2.2.map V.str)])) (openX (fun t:TI=>[V.int .i64 t.1,V.int .i64 t.2.1,V.bool t.2.2.1]) (fun t:TI=>t.2.2.2) 3 1 (cur.set i (m,m+1,decide (Int.tmod (m+1+1) 3=0),x3))) ((cur.set i (m,m+1,decide (Int.tmod (m+1+1) 3=0),x3)).flatMap (eltC (fun t:TI=>[V.int .i64 t.1,V.int .i64 t.2.1,V.bool t.2.2.1]) (fun t:TI=>t.2.2.2))) .deep rfl (ic_closed _) (ic_opened _ 1) (by simp [openX_len]) ic_sz (elt_plain ic_plain _) (.inr rfl) rfl (fun _=>rfl)
    try simp only [atSlot_cons,atSlot_nil,Nat.reduceEqDiff,reduceIte,List.set_cons_zero,List.set_cons_succ]
    refine v_region ?_;intro K29 k29;refine zq4 ⟨?_⟩;refine zIndexAddr ⟨?_⟩;refine zq9 ⟨?_⟩;refine zMove ⟨?_⟩;refine v_op ?_;intro K k;simp only [zE,zM,aStepM,optable,set_some,Nat.reduceEqDiff,reduceIte,Nat.reduceLT,implies_true,forall_const,reduceCtorEq,V.ofValue,V.ofScalar,V.un,V.gd,aExec,lentIds,lendOf,Tryz.underlying3,Ty.c3,Ty.a3,Ty.b3,Ty.s3,Tryz.underlying9,Ty.c9,Ty.a9,Ty.b9,Ty.s9,Tryz.underlying59,Ty.c59,Ty.a59,Ty.b59,Ty.s59];repeat (refine ai (by first | rfl | (intros;simp_all;done)) ?_)
    first | refine aCall_lent _ (markStringS_con x3 (m+1+1+1) hll (by omega)) (by first | rfl | (simp only [toArgs,toArg,toCell,toCells,idx,row_mk,List.getElem?_cons_zero,List.getElem?_cons_succ,Option.bind_some,Option.map_some,Blk.row,fillK_mix,thK_mix,flat_mix,deep_mix,thin_mix,shal_mix,cond_true,List.map_take];done) | (simp [toArgs,toArg,toCell,toCells,idx,row_mk,Blk.row,fillK_mix,thK_mix,flat_mix,deep_mix,thin_mix,shal_mix,Nat.beq_refl];done)) hO ⟨by simp [Blk.kindIs,fillK_mix,thK_mix],by simp⟩ (by first | exact .inl rfl | exact .inr (by simp [Blk.kindIs])) ⟨rfl,by simp [Blk.kindIs,fillK_fd,thK_fd]⟩ ?_ | refine aCall_new (markStr0_con (m+1+1+1)) (by first | rfl | (simp only [toArgs,toArg,toCell,toCells,idx,row_mk,List.getElem?_cons_zero,List.getElem?_cons_succ,Option.bind_some,Option.map_some,Blk.row,fillK_mix,thK_mix,flat_mix,deep_mix,thin_mix,shal_mix,cond_true,List.map_take];done) | (simp [toArgs,toArg,toCell,toCells,idx,row_mk,Blk.row,fillK_mix,thK_mix,flat_mix,deep_mix,thin_mix,shal_mix,Nat.beq_refl];done)) (by first | exact .inl ⟨rfl,by simp [Blk.kindIs,fillK_fd,thK_fd]⟩ | exact .inr (by simp [V.cold])) ?_
    refine k _ ?_;clear k K;simp only [zY,zW,set_some,Nat.reduceEqDiff,reduceIte,rho_one,rho_s,V.ren,V.renL,List.set_cons_zero,List.set_cons_succ,Nat.reduceAdd];refine zAssign ⟨?_⟩;refine k29 _ ?_;refine n21 _ ?_;apply n20
    ·apply weak_trans (weak_keep [0,1,5] _);simp only [keep_mk,keepE_nil,keepE_cons,look_cons,look_nil,Nat.reduceEqDiff,reduceIte];have hmne:(markStr (m+1+1+1) x3.length).isEmpty=false:=by cases x3 with | nil=>cases he | cons x l=>simp [markRow,markStr,markG,List.range_succ]
     rw [ic_news2 (t:=(m,m+1,decide (Int.tmod (m+1+1) 3=0),x3)) (u:=(m,m+1,decide (Int.tmod (m+1+1) 3=0),markStr (m+1+1+1) x3.length)) (by omega) hmne,ic_same (cur:=cur) (i:=i) (t:=(m,m+1,decide (Int.tmod (m+1+1) 3=0),x3)) (u:=(m,m+1,decide (Int.tmod (m+1+1) 3=0),markStr (m+1+1+1) x3.length)) rfl (by rw [he,hmne])];exact weak_closeC (A:=[.arr (openX (fun t:TI=>[V.int .i64 t.1,V.int .i64 t.2.1,V.bool t.2.2.1]) (fun t:TI=>t.2.2.2) 3 1 (cur.set i (m,m+1,decide (Int.tmod (m+1+1) 3=0),markStr (m+1+1+1) x3.length))) .mix]) 0 ((cur.set i (m,m+1,decide (Int.tmod (m+1+1) 3=0),markStr (m+1+1+1) x3.length)).map (fun t:TI=>V.agg [V.int .i64 t.1,V.int .i64 t.2.1,V.bool t.2.2.1,V.sl (t.2.2.2.map V.str)])) (openX (fun t:TI=>[V.int .i64 t.1,V.int .i64 t.2.1,V.bool t.2.2.1]) (fun t:TI=>t.2.2.2) 3 1 (cur.set i (m,m+1,decide (Int.tmod (m+1+1) 3=0),markStr (m+1+1+1) x3.length))) ((cur.set i (m,m+1,decide (Int.tmod (m+1+1) 3=0),markStr (m+1+1+1) x3.length)).flatMap (eltC (fun t:TI=>[V.int .i64 t.1,V.int .i64 t.2.1,V.bool t.2.2.1]) (fun t:TI=>t.2.2.2))) rfl rfl (ic_closed _) (ic_opened _ 1) (by simp [openX_len]) ic_sz2 (elt_plain ic_plain _)
    try simp only [atSlot_cons,atSlot_nil,Nat.reduceEqDiff,reduceIte,List.set_cons_zero,List.set_cons_succ]
    refine yV ⟨?_⟩;refine n5 _ (i+1,m+1+1+1+x3.length,cur.set i (m,m+1,decide (Int.tmod (m+1+1) 3=0),markStr (m+1+1+1) x3.length)) ?_ ?_ ?_
    ·refine weak_bothS [0,1,5] [0] ⟨?_⟩;first | (simp only [hkd];rfl) | trace_state
    ·exact ⟨hlt,by show 0≤m+1+1+1+(x3.length:Int);omega,by show (cur.set i _).length=_;rw [qlh];exact hL,by show m+1+1+1+(x3.length:Int)+totIncident (ll.drop (i+1))=_;rw [←hK,htd];(try simp);omega,by show (cur.set i _).drop (i+1)=_;rw [List.drop_set_of_lt (by omega)];have h:=congrArg (List.drop 1) hD;simpa [List.drop_drop,Nat.add_comm] using h,by show (cur.set i _).take (i+1)++markIncidents (m+1+1+1+(x3.length:Int)) _=_;rw [←hM,getElem_drop_cons hx,markIncidents,set_cons_eq (by omega)]⟩
    ·show _ < _;show ll.length - (i+1) < ll.length - i;omega
  ·intro hc0;refine zn [1] ⟨?_⟩;refine yR [4] ⟨?_⟩;refine zr ⟨?_⟩;have hcur:cur=markIncidents kk ll:=by have h:=hM;rw [qle (by omega),markIncidents,List.append_nil,List.take_of_length_le (by omega)] at h;exact h
   have hmk:m=kk+totIncident ll:=by rw [←hK,totIncident_end (by omega)];omega
   rw [←hcur,←hmk];exact ret_lent rfl (by simp) rfl rfl (by simp [Blk.kindIs,fillK_fd]) (.inl rfl)
set_option maxRecDepth 8000 in
theorem heldIncidentS_con (ll:List TI) (kk:Int) (hl:ll.length≤1048576) (hls:∀t∈ll,t.2.2.2.length≤1048576) (hk:0≤kk∧kk≤10000000000000):Con Tryz.prog 103 [.sl ((markIncidents kk ll).map (fun t:TI=>V.agg [V.int .i64 t.1,V.int .i64 t.2.1,V.bool t.2.2.1,V.sl (t.2.2.2.map V.str)])),.int .i64 kk] [] (.int .i64 (kk+totIncident ll)) []:=by
 refine v_con [.tmp 4] [] Tryz.func103 rfl rfl rfl (by simp [Tryz.ntmps103]) ?_;intro Q0 n0 r0;simp only [Tryz.ntmps103,envFrom,Nat.reduceAdd];have T:=Tys.mk (ai Ty.t3 (ai Ty.t4 (ai Ty.t9 (ai Ty.t59 (ai Ty.t64 Ty.t154)))));have F:=Fc.mk True.intro;refine yR [0,1] ⟨?_⟩;refine v_seq ?_;intros;refine yR [0,1,5] ⟨?_⟩;refine v_block ?_;intros;refine v_loop (fun p=>⟨[(0,.sl ((markIncidents kk ll).map (fun t:TI=>V.agg [V.int .i64 t.1,V.int .i64 t.2.1,V.bool t.2.2.1,V.sl (t.2.2.2.map V.str)]))),(1,.int .i64 p.2),(5,.int .i64 (Nat.cast p.1))],[],false,51,0⟩) (fun p=>p.1≤ll.length∧0≤p.2∧p.2+totIncident (ll.drop p.1)=kk+totIncident ll∧(markIncidents kk ll).drop p.1=markIncidents p.2 (ll.drop p.1)) (fun p=>ll.length - p.1) ((0,kk):Nat×Int) ?_ ?_ ?_
 ·refine weak_of [0,1,5] ?_;simp only [keep_mk,keepE_nil,keepE_cons,look_cons,look_nil,Nat.reduceEqDiff,reduceIte];rfl
 ·exact ⟨qld _,hk.1,rfl,rfl⟩
 ·rintro ⟨i,m⟩ hok5 Q5 n5 e5 r5;obtain ⟨hi1,hm0,hK,hD⟩:=hok5;simp only [] at hi1 hm0 hK hD⊢;refine v_seq ?_;intros;refine yR [0,1,5,9] ⟨?_⟩;refine v_condS _ rfl ?_ ?_
  ·intro hc0;rw [markIncidents_len] at hc0;have hlt:i < ll.length:=by omega
   obtain ⟨⟨x0,x1,x2,x3⟩,hx⟩:∃x,ll[i]? =some x:=⟨_,qla hlt⟩;have hll:=hls _ (qlb hx);have htd:=totIncident_drop hx;simp only [] at hll htd;have hpos:=totIncident_pos (ll.drop (i+1));have htt:=totIncident_le hls;have hD2:=hD;rw [getElem_drop_cons hx,markIncidents] at hD2;simp only [] at hD2;have hg:(markIncidents kk ll)[i]? =some (m,m+1,decide (Int.tmod (m+1+1) 3=0),markStr (m+1+1+1) x3.length):=by have h:=congrArg (fun z=>z[0]?) hD2;simpa [List.getElem?_drop] using h
   refine zn [0,1,5] ⟨?_⟩;refine v_seq ?_;intros;refine v_block ?_;intros;refine v_seq ?_;intros;have F:=Fc.mk (ai (gdm hg) @markIncidents_len);refine yR [0,1,5,18] ⟨?_⟩;refine v_cond _ rfl ?_ ?_
   ·intro hc1;exfalso;first | (simp at hc1;done) | (simp at hc1;omega)
   ·intro hc1;try simp only [zC,reduceCtorEq] at hc1
    refine zn [0,1,5] ⟨?_⟩;refine yR [0,1,5] ⟨?_⟩;refine v_seq ?_;intros;refine yR [0,1,5,27] ⟨?_⟩;refine v_cond _ rfl ?_ ?_
    ·intro hc2;exfalso;first | (simp at hc2;done) | (simp at hc2;omega)
    ·intro hc2;try simp only [zC,reduceCtorEq] at hc2
     refine zn [0,1,5] ⟨?_⟩;refine yR [0,1,5] ⟨?_⟩;refine v_seq ?_;intros;refine yR [0,1,5,38] ⟨?_⟩;refine v_cond _ rfl ?_ ?_
     ·intro hc3;exfalso;first | (simp at hc3;done) | (simp at hc3;omega)
     ·intro hc3;try simp only [zC,reduceCtorEq] at hc3
      refine zn [0,1,5] ⟨?_⟩;refine yR [0,1,5] ⟨?_⟩;refine yRc [0,1,5] (heldStringS_con (m+1+1+1) x3.length hll (by omega)) ⟨?_⟩;refine yR [0,1,5,49] ⟨?_⟩;refine v_cond _ rfl ?_ ?_
      ·intro hc4;exfalso;first | (simp at hc4;done) | (simp at hc4;omega)
      ·intro hc4;try simp only [zC,reduceCtorEq] at hc4
       refine zn [0,1,5] ⟨?_⟩;refine yV ⟨?_⟩;refine n5 _ (i+1,m+1+1+1+x3.length) ?_ ?_ ?_
       ·refine weak_of [0,1,5] ?_;simp only [keep_mk,keepE_nil,keepE_cons,look_cons,look_nil,Nat.reduceEqDiff,reduceIte];rfl
       ·exact ⟨hlt,by show 0≤m+1+1+1+(x3.length:Int);omega,by show m+1+1+1+(x3.length:Int)+totIncident (ll.drop (i+1))=_;rw [←hK,htd];omega,by show (markIncidents kk ll).drop (i+1)=markIncidents (m+1+1+1+x3.length) _;have h:=congrArg (List.drop 1) hD2;simpa [List.drop_drop,Nat.add_comm] using h⟩
       ·show _ < _;show ll.length - (i+1) < ll.length - i;omega
  ·intro hc0;rw [markIncidents_len] at hc0;refine zn [1] ⟨?_⟩;refine yR [4] ⟨?_⟩;refine zr ⟨?_⟩;exact ret_pure rfl (by rw [←hK,totIncident_end (by omega)];congr 1;omega) (.inl rfl)
end Go.Proofs.YtmhaafinhpopmaaGreatDoor
