/- What functions compute. No condition. -/
import Derived.Test.YtmhaafinhpopmaaGreatDoorX18
set_option linter.unusedSimpArgs false
set_option linter.unusedVariables false
set_option linter.defProp false
namespace Go.Proofs.YtmhaafinhpopmaaGreatDoor
open Go Go.Vm
set_option maxHeartbeats 8000000
def markWants:Int→List TW→List TW
  | _,[]=>[]
  | k,t::l=>(k,markRow (k+1) t.2.length)::markWants (k+1+t.2.length) l
def totWant:List TW→Int
  | []=>0
  | t::l=>1+t.2.length+totWant l
theorem totWant_pos:∀l:List TW,0≤totWant l
  | []=>Int.le_refl _
  | t::l=>by have:=totWant_pos l;rw [totWant];omega
theorem totWant_le:∀{l:List TW},(∀t∈l,t.2.length≤1048576)→totWant l≤1048580 * l.length
  | [],_=>Int.le_refl _
  | t::l,h=>by
    have h1:=totWant_le (l:=l) fun x hx=>h x (qli _ hx)
    have h2:=h t (qlg ..);rw [totWant,ql1];omega
theorem totWant_drop {l:List TW} {i:Nat} {t:TW} (h:l[i]? =some t):totWant (l.drop i)=1+t.2.length+totWant (l.drop (i+1)):=by
  rw [getElem_drop_cons h,totWant]
theorem totWant_end {l:List TW} {i:Nat} (h:l.length≤i):totWant (l.drop i)=0:=by
  rw [qle h];rfl
theorem markWants_len:∀(l:List TW) (k:Int),(markWants k l).length=l.length
  | [],_=>rfl
  | t::l,k=>by rw [markWants,ql1,ql1,markWants_len l]
theorem w_get {cur:List TW} {i:Nat} {t:TW} (h:cur[i]? =some t):(openX (fun t:TW=>[V.int .i64 t.1]) (fun t:TW=>t.2) 1 1 cur).getD i .any=V.agg [V.int .i64 t.1,rowV (1+2 * i+1) t.2]:=by
  rw [qlk,openX_get h];rfl
theorem w_same {cur:List TW} {i:Nat} {t u:TW} (h1:[V.int .i64 t.1]=[V.int .i64 u.1]) (h:t.2.isEmpty=u.2.isEmpty):(openX (fun t:TW=>[V.int .i64 t.1]) (fun t:TW=>t.2) 1 1 (cur.set i t))=(openX (fun t:TW=>[V.int .i64 t.1]) (fun t:TW=>t.2) 1 1 (cur.set i u)):=by
  rw [←openX_set (pre:=(fun t:TW=>[V.int .i64 t.1])) (sl:=(fun t:TW=>t.2)) (n:=1) (t:=t),←openX_set (pre:=(fun t:TW=>[V.int .i64 t.1])) (sl:=(fun t:TW=>t.2)) (n:=1) (t:=u),openE,openE,rowV,rowV,h1,h]
theorem w_news {b:Blk} {cur:List TW} {i:Nat} {t:TW} (h:cur[i]? =some t) (hne:t.2.isEmpty=false):(b::(newsC (V.int .i64) ((cur).flatMap (eltC (fun t:TW=>[V.int .i64 t.1]) (fun t:TW=>t.2)))))[1+2 * i+1]? =some (.arr (t.2.map (V.int .i64)) .flat):=by
  rw [show 1+2 * i+1=(2 * i+1)+1 by omega,List.getElem?_cons_succ,newsX_get (pre:=(fun t:TW=>[V.int .i64 t.1])) (sl:=(fun t:TW=>t.2)) (n:=1) (fun _=>rfl) h];simp [rowB,hne]
theorem w_cells:∀(l:List TW) (N:Nat),∀x∈(openX (fun t:TW=>[V.int .i64 t.1]) (fun t:TW=>t.2) 1 N l),x.cells.length=2
  | [],_,x,h=>by cases h
  | t::l,N,x,h=>by
    rcases qly.1 h with e | e
    · subst e;rfl
    · exact w_cells l _ x e
theorem w_sz {ll:List TW} {N:Nat}:∀n,(∀x∈ll.map (fun t:TW=>V.agg [V.int .i64 t.1,V.sl (t.2.map (V.int .i64))]),x.cells.length=n)→∀x∈(openX (fun t:TW=>[V.int .i64 t.1]) (fun t:TW=>t.2) 1 N ll),x.cells.length=n:=by
  intro n h x hx;cases ll with
  | nil=>cases hx
  | cons t l=>
    rw [w_cells _ _ x hx,←h _ (qlg ..)];rfl
theorem w_sz2 {ll:List TW} {N:Nat}:∀n,(∀x∈(openX (fun t:TW=>[V.int .i64 t.1]) (fun t:TW=>t.2) 1 N ll),x.cells.length=n)→∀x∈ll.map (fun t:TW=>V.agg [V.int .i64 t.1,V.sl (t.2.map (V.int .i64))]),x.cells.length=n:=by
  intro n h x hx;cases ll with
  | nil=>cases hx
  | cons t l=>
    have h1:=h _ (qlg ..);obtain ⟨u,_,rfl⟩:=List.mem_map.1 hx;rw [←h1];rfl
theorem w_closed (ll:List TW):(ll.map (fun t:TW=>V.agg [V.int .i64 t.1,V.sl (t.2.map (V.int .i64))])).flatMap V.cells=(ll.flatMap (eltC (fun t:TW=>[V.int .i64 t.1]) (fun t:TW=>t.2))).map (cellR (V.int .i64)):=elt_closed (pre:=(fun t:TW=>[V.int .i64 t.1])) (sl:=(fun t:TW=>t.2)) (f:=(V.int .i64)) ll
theorem w_opened (ll:List TW) (N:Nat):(openX (fun t:TW=>[V.int .i64 t.1]) (fun t:TW=>t.2) 1 N ll).flatMap V.cells=openC N (ll.flatMap (eltC (fun t:TW=>[V.int .i64 t.1]) (fun t:TW=>t.2))):=elt_opened (pre:=(fun t:TW=>[V.int .i64 t.1])) (sl:=(fun t:TW=>t.2)) (n:=1) (fun _=>rfl) ll N
theorem w_plain:∀t:TW,∀v∈(fun t:TW=>[V.int .i64 t.1]) t,v.only (fun _=>false)=true∧v.noSl=true∧v.cells=[v]:=by
  intro t v hv;simp only [List.mem_cons,List.not_mem_nil,or_false] at hv;rcases hv with rfl<;>exact ⟨rfl,rfl,rfl⟩
theorem w_news2 {cur:List TW} {i:Nat} {t u:TW} (h:i < cur.length) (hne:u.2.isEmpty=false):(newsC (V.int .i64) (((cur.set i t)).flatMap (eltC (fun t:TW=>[V.int .i64 t.1]) (fun t:TW=>t.2)))).set (1+2 * i) (.arr (u.2.map (V.int .i64)) .flat)=(newsC (V.int .i64) (((cur.set i u)).flatMap (eltC (fun t:TW=>[V.int .i64 t.1]) (fun t:TW=>t.2)))):=by
  have q:=newsX_set (pre:=(fun t:TW=>[V.int .i64 t.1])) (sl:=(fun t:TW=>t.2)) (f:=(V.int .i64)) (n:=1) (fun _=>rfl) (l:=cur.set i t) (i:=i) (t:=u) (by rw [qlh];exact h);rw [List.set_set] at q;rw [show rowB (V.int .i64) ((fun t:TW=>t.2) u)=.arr (u.2.map (V.int .i64)) .flat by simp [rowB,hne],show (1+1) * i+1=1+2 * i by omega] at q;exact q
set_option maxRecDepth 8000 in
theorem markWantS_con (ll:List TW) (kk:Int) (hl:ll.length≤1048576) (hls:∀t∈ll,t.2.length≤1048576) (hk:0≤kk∧kk≤10000000000000):Con Tryz.prog 100 [.ref 0,.int .i64 kk] [.arr (ll.map (fun t:TW=>V.agg [V.int .i64 t.1,V.sl (t.2.map (V.int .i64))])) (fillK ll.length)] (.int .i64 (kk+totWant ll)) [.arr ((markWants kk ll).map (fun t:TW=>V.agg [V.int .i64 t.1,V.sl (t.2.map (V.int .i64))])) (fillK ll.length)]:=by
 refine v_con [.tmp 4] [(43,[0])] Tryz.func100 rfl rfl rfl (by simp [Tryz.ntmps100]) ?_;intro Q0 n0 r0;simp only [Tryz.ntmps100,envFrom,Nat.reduceAdd];have T:=Tys.mk (ai Ty.t3 (ai Ty.t35 (ai Ty.t65 Ty.t158)));have F:=Fc.mk True.intro;refine yR [0,1] ⟨?_⟩;refine v_seq ?_;intros;refine yR [0,1,5] ⟨?_⟩;refine v_block ?_;intros;refine v_loop (fun p=>⟨[(0,.ref 0),(1,.int .i64 p.2.1),(5,.int .i64 (Nat.cast p.1))],[.arr (p.2.2.map (fun t:TW=>V.agg [V.int .i64 t.1,V.sl (t.2.map (V.int .i64))])) (fillK ll.length)],false,27,0⟩) (fun p=>p.1≤ll.length∧0≤p.2.1∧p.2.2.length=ll.length∧p.2.1+totWant (ll.drop p.1)=kk+totWant ll∧p.2.2.drop p.1=ll.drop p.1∧p.2.2.take p.1++markWants p.2.1 (ll.drop p.1)=markWants kk ll) (fun p=>ll.length - p.1) ((0,kk,ll):Nat×Int×List TW) ?_ ?_ ?_
 ·refine weak_bothS [0,1,5] [0] ⟨?_⟩;rfl
 ·exact ⟨qld _,hk.1,rfl,by simp,rfl,by simp⟩
 ·rintro ⟨i,m,cur⟩ hok5 Q5 n5 e5 r5;obtain ⟨hi1,hm0,hL,hK,hD,hM⟩:=hok5;simp only [] at hi1 hm0 hL hK hD hM⊢;refine v_seq ?_;intros;refine yR [0,1,5,9] ⟨?_⟩;refine v_condS _ rfl ?_ ?_
  ·intro hc0;have hclen:(cur.map (fun t:TW=>V.agg [V.int .i64 t.1,V.sl (t.2.map (V.int .i64))])).length=ll.length:=by rw [ql9,hL]
   have hlt:i < ll.length:=by omega
   have hkd:fillK ll.length=.deep:=by unfold fillK;rw [if_neg (by omega)]
   obtain ⟨⟨x0,x1⟩,hx⟩:∃x,ll[i]? =some x:=⟨_,qla hlt⟩;have hll:=hls _ (qlb hx);have htd:=totWant_drop hx;simp only [] at hll htd;have hpos:=totWant_pos (ll.drop (i+1));have htt:=totWant_le hls;have hcx:cur[i]? =some (x0,x1):=by have h:=congrArg (fun z=>z[0]?) hD;simpa [List.getElem?_drop,hx] using h
   have hsm:(cur.map (fun t:TW=>V.agg [V.int .i64 t.1,V.sl (t.2.map (V.int .i64))])).set i (V.agg [V.int .i64 m,V.sl (x1.map (V.int .i64))])=(cur.set i (m,x1)).map (fun t:TW=>V.agg [V.int .i64 t.1,V.sl (t.2.map (V.int .i64))]):=by have q:=List.map_set (f:=(fun t:TW=>V.agg [V.int .i64 t.1,V.sl (t.2.map (V.int .i64))])) (l:=cur) (i:=i) (a:=(m,x1));exact q.symm
   have hc1:(cur.set i (m,x1))[i]? =some (m,x1):=qlm (by omega);have hrow:=w_get hc1;simp only [] at hrow;have hoc:=openX_len (pre:=(fun t:TW=>[V.int .i64 t.1])) (sl:=(fun t:TW=>t.2)) (n:=1) (cur.set i (m,x1)) 1;have hcl1:(cur.set i (m,x1)).length=ll.length:=by rw [qlh,hL]
   have hSd:=Sd.mk (fun c=>w_cells c 1);rcases Bool.eq_false_or_eq_true x1.isEmpty with he | he
   ·skip;have hl0:x1=[]:=List.isEmpty_iff.1 he;have hrv:rowV (1+2 * i+1) x1=.sl []:=by rw [hl0];rfl
    refine zn [0,1,5] ⟨?_⟩;refine v_seq ?_;intro Q9 n9 e9 r9;refine v_block ?_;intro Q10 n10 x10 e10 r10;have F:=Fc.mk (ai hkd (ai hclen (ai (gdm hcx) (ai hsm (ai hrow (ai hoc (ai hcl1 hrv)))))));refine yR [0,1,5] ⟨?_⟩;refine v_seq ?_;intro Q12 n12 e12 r12;refine yV ⟨?_⟩;apply n12
    ·apply weak_trans (weak_keep [0,1,5] _);simp only [keep_mk,keepE_nil,keepE_cons,look_cons,look_nil,Nat.reduceEqDiff,reduceIte];exact weak_openC (f:=(V.int .i64)) 0 ((cur.set i (m,x1)).map (fun t:TW=>V.agg [V.int .i64 t.1,V.sl (t.2.map (V.int .i64))])) (openX (fun t:TW=>[V.int .i64 t.1]) (fun t:TW=>t.2) 1 1 (cur.set i (m,x1))) ((cur.set i (m,x1)).flatMap (eltC (fun t:TW=>[V.int .i64 t.1]) (fun t:TW=>t.2))) .deep rfl (w_closed _) (w_opened _ 1) (by simp [openX_len]) w_sz (elt_plain w_plain _) (.inr rfl) rfl (fun _=>rfl)
    try simp only [atSlot_cons,atSlot_nil,Nat.reduceEqDiff,reduceIte,List.set_cons_zero,List.set_cons_succ]
    refine v_region ?_;intro K14 k14;refine zq4 ⟨?_⟩;refine zIndexAddr ⟨?_⟩;refine zq9 ⟨?_⟩;refine zMove ⟨?_⟩;refine v_op ?_;intro K k;simp only [zE,zM,aStepM,optable,set_some,Nat.reduceEqDiff,reduceIte,Nat.reduceLT,implies_true,forall_const,reduceCtorEq,V.ofValue,V.ofScalar,V.un,V.gd,aExec,lentIds,lendOf,Tryz.underlying3,Ty.c3,Ty.a3,Ty.b3,Ty.s3,Tryz.underlying35,Ty.c35,Ty.a35,Ty.b35,Ty.s35];repeat (refine ai (by first | rfl | (intros;simp_all;done)) ?_)
    first | refine aCall_lent _ (markIntS_con x1 (m+1) hll (by omega)) (by first | rfl | (simp only [toArgs,toArg,toCell,toCells,idx,row_mk,List.getElem?_cons_zero,List.getElem?_cons_succ,Option.bind_some,Option.map_some,Blk.row,fillK_mix,thK_mix,flat_mix,deep_mix,thin_mix,shal_mix,cond_true,List.map_take];done) | (simp [toArgs,toArg,toCell,toCells,idx,row_mk,Blk.row,fillK_mix,thK_mix,flat_mix,deep_mix,thin_mix,shal_mix,Nat.beq_refl];done)) hO ⟨by simp [Blk.kindIs,fillK_mix,thK_mix],by simp⟩ (by first | exact .inl rfl | exact .inr (by simp [Blk.kindIs])) ⟨rfl,by simp [Blk.kindIs,fillK_fd,thK_fd]⟩ ?_ | refine aCall_new (markInt0_con (m+1)) (by first | rfl | (simp only [toArgs,toArg,toCell,toCells,idx,row_mk,List.getElem?_cons_zero,List.getElem?_cons_succ,Option.bind_some,Option.map_some,Blk.row,fillK_mix,thK_mix,flat_mix,deep_mix,thin_mix,shal_mix,cond_true,List.map_take];done) | (simp [toArgs,toArg,toCell,toCells,idx,row_mk,Blk.row,fillK_mix,thK_mix,flat_mix,deep_mix,thin_mix,shal_mix,Nat.beq_refl];done)) (by first | exact .inl ⟨rfl,by simp [Blk.kindIs,fillK_fd,thK_fd]⟩ | exact .inr (by simp [V.cold])) ?_
    refine k _ ?_;clear k K;simp only [zY,zW,set_some,Nat.reduceEqDiff,reduceIte,rho_one,rho_s,V.ren,V.renL,List.set_cons_zero,List.set_cons_succ,Nat.reduceAdd];refine zAssign ⟨?_⟩;refine k14 _ ?_;refine n10 _ ?_;apply n9
    ·apply weak_trans (weak_keep [0,1,5] _);simp only [keep_mk,keepE_nil,keepE_cons,look_cons,look_nil,Nat.reduceEqDiff,reduceIte];exact weak_closeC (A:=[.arr (openX (fun t:TW=>[V.int .i64 t.1]) (fun t:TW=>t.2) 1 1 (cur.set i (m,x1))) .mix]) 0 ((cur.set i (m,x1)).map (fun t:TW=>V.agg [V.int .i64 t.1,V.sl (t.2.map (V.int .i64))])) (openX (fun t:TW=>[V.int .i64 t.1]) (fun t:TW=>t.2) 1 1 (cur.set i (m,x1))) ((cur.set i (m,x1)).flatMap (eltC (fun t:TW=>[V.int .i64 t.1]) (fun t:TW=>t.2))) rfl rfl (w_closed _) (w_opened _ 1) (by simp [openX_len]) w_sz2 (elt_plain w_plain _)
    try simp only [atSlot_cons,atSlot_nil,Nat.reduceEqDiff,reduceIte,List.set_cons_zero,List.set_cons_succ]
    refine yV ⟨?_⟩;refine n5 _ (i+1,m+1,cur.set i (m,x1)) ?_ ?_ ?_
    ·refine weak_bothS [0,1,5] [0] ⟨?_⟩;first | (simp only [hkd];rfl) | trace_state
    ·exact ⟨hlt,by show 0≤m+1;omega,by show (cur.set i _).length=_;rw [qlh];exact hL,by subst hl0;show m+1+totWant (ll.drop (i+1))=_;rw [←hK,htd];(try simp);omega,by show (cur.set i _).drop (i+1)=_;rw [List.drop_set_of_lt (by omega)];have h:=congrArg (List.drop 1) hD;simpa [List.drop_drop,Nat.add_comm] using h,by subst hl0;show (cur.set i _).take (i+1)++markWants (m+1) _=_;rw [←hM,getElem_drop_cons hx,markWants,set_cons_eq (by omega)];simp [markRow_zero]⟩
    ·show _ < _;show ll.length - (i+1) < ll.length - i;omega
   ·skip;have hrv:rowV (1+2 * i+1) x1=.ref (1+2 * i+1):=by rw [rowV,he];rfl
    have hO:=w_news (b:=.arr (openX (fun t:TW=>[V.int .i64 t.1]) (fun t:TW=>t.2) 1 1 (cur.set i (m,x1))) .mix) hc1 he;refine zn [0,1,5] ⟨?_⟩;refine v_seq ?_;intro Q16 n16 e16 r16;refine v_block ?_;intro Q17 n17 x17 e17 r17;have F:=Fc.mk (ai hkd (ai hclen (ai (gdm hcx) (ai hsm (ai hrow (ai hoc (ai hcl1 hrv)))))));refine yR [0,1,5] ⟨?_⟩;refine v_seq ?_;intro Q19 n19 e19 r19;refine yV ⟨?_⟩;apply n19
    ·apply weak_trans (weak_keep [0,1,5] _);simp only [keep_mk,keepE_nil,keepE_cons,look_cons,look_nil,Nat.reduceEqDiff,reduceIte];exact weak_openC (f:=(V.int .i64)) 0 ((cur.set i (m,x1)).map (fun t:TW=>V.agg [V.int .i64 t.1,V.sl (t.2.map (V.int .i64))])) (openX (fun t:TW=>[V.int .i64 t.1]) (fun t:TW=>t.2) 1 1 (cur.set i (m,x1))) ((cur.set i (m,x1)).flatMap (eltC (fun t:TW=>[V.int .i64 t.1]) (fun t:TW=>t.2))) .deep rfl (w_closed _) (w_opened _ 1) (by simp [openX_len]) w_sz (elt_plain w_plain _) (.inr rfl) rfl (fun _=>rfl)
    try simp only [atSlot_cons,atSlot_nil,Nat.reduceEqDiff,reduceIte,List.set_cons_zero,List.set_cons_succ]
    refine v_region ?_;intro K21 k21;refine zq4 ⟨?_⟩;refine zIndexAddr ⟨?_⟩;refine zq9 ⟨?_⟩;refine zMove ⟨?_⟩;refine v_op ?_;intro K k;simp only [zE,zM,aStepM,optable,set_some,Nat.reduceEqDiff,reduceIte,Nat.reduceLT,implies_true,forall_const,reduceCtorEq,V.ofValue,V.ofScalar,V.un,V.gd,aExec,lentIds,lendOf,Tryz.underlying3,Ty.c3,Ty.a3,Ty.b3,Ty.s3,Tryz.underlying35,Ty.c35,Ty.a35,Ty.b35,Ty.s35];repeat (refine ai (by first | rfl | (intros;simp_all;done)) ?_)
    first | refine aCall_lent _ (markIntS_con x1 (m+1) hll (by omega)) (by first | rfl | (simp only [toArgs,toArg,toCell,toCells,idx,row_mk,List.getElem?_cons_zero,List.getElem?_cons_succ,Option.bind_some,Option.map_some,Blk.row,fillK_mix,thK_mix,flat_mix,deep_mix,thin_mix,shal_mix,cond_true,List.map_take];done) | (simp [toArgs,toArg,toCell,toCells,idx,row_mk,Blk.row,fillK_mix,thK_mix,flat_mix,deep_mix,thin_mix,shal_mix,Nat.beq_refl];done)) hO ⟨by simp [Blk.kindIs,fillK_mix,thK_mix],by simp⟩ (by first | exact .inl rfl | exact .inr (by simp [Blk.kindIs])) ⟨rfl,by simp [Blk.kindIs,fillK_fd,thK_fd]⟩ ?_ | refine aCall_new (markInt0_con (m+1)) (by first | rfl | (simp only [toArgs,toArg,toCell,toCells,idx,row_mk,List.getElem?_cons_zero,List.getElem?_cons_succ,Option.bind_some,Option.map_some,Blk.row,fillK_mix,thK_mix,flat_mix,deep_mix,thin_mix,shal_mix,cond_true,List.map_take];done) | (simp [toArgs,toArg,toCell,toCells,idx,row_mk,Blk.row,fillK_mix,thK_mix,flat_mix,deep_mix,thin_mix,shal_mix,Nat.beq_refl];done)) (by first | exact .inl ⟨rfl,by simp [Blk.kindIs,fillK_fd,thK_fd]⟩ | exact .inr (by simp [V.cold])) ?_
    refine k _ ?_;clear k K;simp only [zY,zW,set_some,Nat.reduceEqDiff,reduceIte,rho_one,rho_s,V.ren,V.renL,List.set_cons_zero,List.set_cons_succ,Nat.reduceAdd];refine zAssign ⟨?_⟩;refine k21 _ ?_;refine n17 _ ?_;apply n16
    ·apply weak_trans (weak_keep [0,1,5] _);simp only [keep_mk,keepE_nil,keepE_cons,look_cons,look_nil,Nat.reduceEqDiff,reduceIte];have hmne:(markRow (m+1) x1.length).isEmpty=false:=by cases x1 with | nil=>cases he | cons x l=>simp [markRow,markStr,markG,List.range_succ]
     rw [w_news2 (t:=(m,x1)) (u:=(m,markRow (m+1) x1.length)) (by omega) hmne,w_same (cur:=cur) (i:=i) (t:=(m,x1)) (u:=(m,markRow (m+1) x1.length)) rfl (by rw [he,hmne])];exact weak_closeC (A:=[.arr (openX (fun t:TW=>[V.int .i64 t.1]) (fun t:TW=>t.2) 1 1 (cur.set i (m,markRow (m+1) x1.length))) .mix]) 0 ((cur.set i (m,markRow (m+1) x1.length)).map (fun t:TW=>V.agg [V.int .i64 t.1,V.sl (t.2.map (V.int .i64))])) (openX (fun t:TW=>[V.int .i64 t.1]) (fun t:TW=>t.2) 1 1 (cur.set i (m,markRow (m+1) x1.length))) ((cur.set i (m,markRow (m+1) x1.length)).flatMap (eltC (fun t:TW=>[V.int .i64 t.1]) (fun t:TW=>t.2))) rfl rfl (w_closed _) (w_opened _ 1) (by simp [openX_len]) w_sz2 (elt_plain w_plain _)
    try simp only [atSlot_cons,atSlot_nil,Nat.reduceEqDiff,reduceIte,List.set_cons_zero,List.set_cons_succ]
    refine yV ⟨?_⟩;refine n5 _ (i+1,m+1+x1.length,cur.set i (m,markRow (m+1) x1.length)) ?_ ?_ ?_
    ·refine weak_bothS [0,1,5] [0] ⟨?_⟩;first | (simp only [hkd];rfl) | trace_state
    ·exact ⟨hlt,by show 0≤m+1+(x1.length:Int);omega,by show (cur.set i _).length=_;rw [qlh];exact hL,by show m+1+(x1.length:Int)+totWant (ll.drop (i+1))=_;rw [←hK,htd];(try simp);omega,by show (cur.set i _).drop (i+1)=_;rw [List.drop_set_of_lt (by omega)];have h:=congrArg (List.drop 1) hD;simpa [List.drop_drop,Nat.add_comm] using h,by show (cur.set i _).take (i+1)++markWants (m+1+(x1.length:Int)) _=_;rw [←hM,getElem_drop_cons hx,markWants,set_cons_eq (by omega)]⟩
    ·show _ < _;show ll.length - (i+1) < ll.length - i;omega
  ·intro hc0;refine zn [1] ⟨?_⟩;refine yR [4] ⟨?_⟩;refine zr ⟨?_⟩;have hcur:cur=markWants kk ll:=by have h:=hM;rw [qle (by omega),markWants,List.append_nil,List.take_of_length_le (by omega)] at h;exact h
   have hmk:m=kk+totWant ll:=by rw [←hK,totWant_end (by omega)];omega
   rw [←hcur,←hmk];exact ret_lent rfl (by simp) rfl rfl (by simp [Blk.kindIs,fillK_fd]) (.inl rfl)
set_option maxRecDepth 8000 in
theorem heldWantS_con (ll:List TW) (kk:Int) (hl:ll.length≤1048576) (hls:∀t∈ll,t.2.length≤1048576) (hk:0≤kk∧kk≤10000000000000):Con Tryz.prog 104 [.sl ((markWants kk ll).map (fun t:TW=>V.agg [V.int .i64 t.1,V.sl (t.2.map (V.int .i64))])),.int .i64 kk] [] (.int .i64 (kk+totWant ll)) []:=by
 refine v_con [.tmp 4] [] Tryz.func104 rfl rfl rfl (by simp [Tryz.ntmps104]) ?_;intro Q0 n0 r0;simp only [Tryz.ntmps104,envFrom,Nat.reduceAdd];have T:=Tys.mk (ai Ty.t3 (ai Ty.t35 (ai Ty.t65 Ty.t158)));have F:=Fc.mk True.intro;refine yR [0,1] ⟨?_⟩;refine v_seq ?_;intros;refine yR [0,1,5] ⟨?_⟩;refine v_block ?_;intros;refine v_loop (fun p=>⟨[(0,.sl ((markWants kk ll).map (fun t:TW=>V.agg [V.int .i64 t.1,V.sl (t.2.map (V.int .i64))]))),(1,.int .i64 p.2),(5,.int .i64 (Nat.cast p.1))],[],false,31,0⟩) (fun p=>p.1≤ll.length∧0≤p.2∧p.2+totWant (ll.drop p.1)=kk+totWant ll∧(markWants kk ll).drop p.1=markWants p.2 (ll.drop p.1)) (fun p=>ll.length - p.1) ((0,kk):Nat×Int) ?_ ?_ ?_
 ·refine weak_of [0,1,5] ?_;simp only [keep_mk,keepE_nil,keepE_cons,look_cons,look_nil,Nat.reduceEqDiff,reduceIte];rfl
 ·exact ⟨qld _,hk.1,rfl,rfl⟩
 ·rintro ⟨i,m⟩ hok5 Q5 n5 e5 r5;obtain ⟨hi1,hm0,hK,hD⟩:=hok5;simp only [] at hi1 hm0 hK hD⊢;refine v_seq ?_;intros;refine yR [0,1,5,9] ⟨?_⟩;refine v_condS _ rfl ?_ ?_
  ·intro hc0;rw [markWants_len] at hc0;have hlt:i < ll.length:=by omega
   obtain ⟨⟨x0,x1⟩,hx⟩:∃x,ll[i]? =some x:=⟨_,qla hlt⟩;have hll:=hls _ (qlb hx);have htd:=totWant_drop hx;simp only [] at hll htd;have hpos:=totWant_pos (ll.drop (i+1));have htt:=totWant_le hls;have hD2:=hD;rw [getElem_drop_cons hx,markWants] at hD2;simp only [] at hD2;have hg:(markWants kk ll)[i]? =some (m,markRow (m+1) x1.length):=by have h:=congrArg (fun z=>z[0]?) hD2;simpa [List.getElem?_drop] using h
   refine zn [0,1,5] ⟨?_⟩;refine v_seq ?_;intros;refine v_block ?_;intros;refine v_seq ?_;intros;have F:=Fc.mk (ai (gdm hg) @markWants_len);refine yR [0,1,5,18] ⟨?_⟩;refine v_cond _ rfl ?_ ?_
   ·intro hc1;exfalso;first | (simp at hc1;done) | (simp at hc1;omega)
   ·intro hc1;try simp only [zC,reduceCtorEq] at hc1
    refine zn [0,1,5] ⟨?_⟩;refine yR [0,1,5] ⟨?_⟩;refine yRc [0,1,5] (heldIntS_con (m+1) x1.length hll (by omega)) ⟨?_⟩;refine yR [0,1,5,29] ⟨?_⟩;refine v_cond _ rfl ?_ ?_
    ·intro hc2;exfalso;first | (simp at hc2;done) | (simp at hc2;omega)
    ·intro hc2;try simp only [zC,reduceCtorEq] at hc2
     refine zn [0,1,5] ⟨?_⟩;refine yV ⟨?_⟩;refine n5 _ (i+1,m+1+x1.length) ?_ ?_ ?_
     ·refine weak_of [0,1,5] ?_;simp only [keep_mk,keepE_nil,keepE_cons,look_cons,look_nil,Nat.reduceEqDiff,reduceIte];rfl
     ·exact ⟨hlt,by show 0≤m+1+(x1.length:Int);omega,by show m+1+(x1.length:Int)+totWant (ll.drop (i+1))=_;rw [←hK,htd];omega,by show (markWants kk ll).drop (i+1)=markWants (m+1+x1.length) _;have h:=congrArg (List.drop 1) hD2;simpa [List.drop_drop,Nat.add_comm] using h⟩
     ·show _ < _;show ll.length - (i+1) < ll.length - i;omega
  ·intro hc0;rw [markWants_len] at hc0;refine zn [1] ⟨?_⟩;refine yR [4] ⟨?_⟩;refine zr ⟨?_⟩;exact ret_pure rfl (by rw [←hK,totWant_end (by omega)];congr 1;omega) (.inl rfl)
end Go.Proofs.YtmhaafinhpopmaaGreatDoor
