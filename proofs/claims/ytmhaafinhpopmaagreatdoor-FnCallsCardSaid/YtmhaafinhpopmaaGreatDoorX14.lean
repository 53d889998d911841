/- What functions compute. No condition. -/
import Derived.Test.YtmhaafinhpopmaaGreatDoorUz
import Derived.Test.YtmhaafinhpopmaaGreatDoorUty
import Derived.Test.YtmhaafinhpopmaaGreatDoorShelf
import Derived.Test.YtmhaafinhpopmaaGreatDoorUmI
set_option linter.unusedSimpArgs false
set_option linter.unusedVariables false
set_option linter.defProp false
namespace Go.Proofs.YtmhaafinhpopmaaGreatDoor
open Go Go.Vm
set_option maxHeartbeats 8000000
theorem wpList_copy_runKC5 {P:Program} (w:World) {ops:Array Oper} {rest:List Oper} {o:Oper} {a:Act} {Q:Exit→Act→World→Prop} (hgd:o.guard=none) (d s:Operand) (t t':TypeId)
    (ho:o.op=.call {callee:=.builtin .copy,args:=#[d,s],argTypes:=#[t,t']}) (v u:Value) (hd:a.eval d=v) (hs:a.eval s=u) {v':Value} {w':World}
    (hr:(Builtin.copy_ #[t,t'] o.type #[v,u]).run P w=.ok v' w') (h:wpList P ops Q rest (a.put o.dst v') w'):wpList P ops Q (o::rest) a w:=
  wpList_plain hgd fun _ hK=>by
    unfold Oper.wp execOp;simp only [ho,resolve,invoke,builtin,Sem.run_bind,Sem.run_pure,Result.andThen_ok,List.map_toArray,List.map_cons,List.map_nil,hd,hs,hr];exact hK _ _ h
theorem step_copy_runKC5 {P:Program} {ops:Array Oper} {o:Oper} {a:Act} {w:World} {K:Act→World→Prop} {Q:Exit→Act→World→Prop} {E:Prop}
    (hg:o.guard=none) (d x:Operand) (dT sT:TypeId) (hop:o.op=Op.call {callee:=Callee.builtin Builtin.copy,args:=#[d,x],argTypes:=#[dT,sT]})
    (v u:Value) (hd:a.eval d=v) (hx:a.eval x=u) {v':Value} {w':World} (hr:(Builtin.copy_ #[dT,sT] o.type #[v,u]).run P w=.ok v' w') (hK:K (a.put o.dst v') w') :
    if Region.wanted o (yielded ops a.tmps)=true then Oper.wp P o a w K Q else E:=by
  have hw:Region.wanted o (yielded ops a.tmps)=true:=by simp [Region.wanted,hg]
  rw [if_pos hw];unfold Oper.wp;simp [execOp,hop,resolve,invoke,builtin,hd,hx,hr,Result.andThen];exact hK
set_option maxRecDepth 100000 in
theorem ins_shiftC5 (own:Nat→Prop) (b off n cap i vb voff vcap:Nat) (c cv:Array Value) (t tv:TypeId) (cs vs:List Value) (w:World)
    (hb:w.heap[b]? =some (.cells c t (0,0))) (hv:w.heap[vb]? =some (.cells cv tv (0,0))) (hvb:vb≠b) (hn:n+1≤cap) (hfit:off+cap * 5≤c.size) (hcs:cs.length=n * 5) (hvs:vs.length=5)
    (hc:∀(j:Nat) (x:Value),cs[j]? =some x→c[off+j]? =some x) (hvc:∀(j:Nat) (x:Value),vs[j]? =some x→cv[voff+j]? =some x) (h1c:∀v∈cs,v.oneCell'=true) (h1v:∀v∈vs,v.oneCell'=true) (hi:i < n) (hn20:n≤1048576) (ho:own b) :
    Calls Tryz.prog 51 #[.slice (some ⟨b,off,none⟩) n cap,.int .i64 i,.slice (some ⟨vb,voff,none⟩) 1 vcap] w (LeftRow w own (n+1) 5 (cs.take (i * 5)++(vs++cs.drop (i * 5)))):=by
  have hp:Program.cellsOf Tryz.prog 26=5:=by kernel_rfl
  have hbw:b < w.heap.size:=by
    rcases qlp b w.heap.size with q | q
    · exact q
    · rw [Array.getElem?_eq_none q] at hb;cases hb
  have hvne:cv.size≠0:=by
    have:=hvc 0 vs[0] (qla (by omega));intro q;rw [Array.getElem?_eq_none (by omega)] at this;cases this
  have hov:∀(lb cb:Nat),(callFunc 106 #[.slice (some ⟨vb,voff,none⟩) 1 vcap,.slice (some ⟨b,off+(i+1) * 5,none⟩) lb cb]).run Tryz.prog w=.ok (.value (.bool false)) w:=fun lb cb=>by
    rw [run_callFunc_extern Tryz.func106 (by kernel_rfl) (by kernel_rfl) (by kernel_rfl) (e:=Extern.SlicesOverlaps.overlaps #[24,24] #[4]) (by kernel_rfl),
      Lib.run_overlaps_apart w 24 4 26 Tryz.underlying24 5 Tryz.sizeOf26 ⟨vb,voff,none⟩ ⟨b,off+(i+1) * 5,none⟩ 1 vcap lb cb hvb tv t cv.size c.size (by simp [World.shape?,hv]) (by simp [World.shape?,hb]) (by omega) (by simp [World.frozen?,hv]) (by simp [World.frozen?,hv])]
    rfl
  have hdl:(cs.drop (i * 5)).length=(n - i) * 5:=by rw [List.length_drop,hcs];omega
  obtain ⟨c1,hc1⟩:∃c1:Array Value,c1=(c.toList.take (off+(i+1) * 5)++cs.drop (i * 5)++c.toList.drop (off+(i+1) * 5+(cs.drop (i * 5)).length)).toArray:=⟨_,rfl⟩;have hcp1:∀(W:World),(∀x,W.heap[x]? =w.heap[x]?)→∀ty dc sc,(Builtin.copy_ #[24,24] ty #[.slice (some ⟨b,off+(i+1) * 5,none⟩) (n - i) dc,.slice (some ⟨b,off+i * 5,none⟩) (n+1 - i) sc]).run Tryz.prog W=.ok (goInt ((n - i:Nat):Int)) (W.setRow b c1):=fun W hW ty dc sc=>by
    have h:=run_copy_at (P:=Tryz.prog) (w:=W) (tS:=24) (ty:=ty) (e:=26) (g:=b) (o:=off+(i+1) * 5) (dLen:=n - i) (dCap:=dc) (a:=⟨b,off+i * 5,none⟩) (sLen:=n+1 - i) (sCap:=sc) (cur:=c) (t:=t) (cs:=cs.drop (i * 5)) Tryz.underlying24 (by rw [hp];decide) (by rw [hW];exact hb)
      (by rw [hdl,hp,show Nat.min (n+1 - i) (n - i)=n - i by simp only [Nat.min_def];split<;>omega])
      (fun j v hj=>by
        rw [List.getElem?_drop] at hj;simp only [World.cell?,hW,hb,Addr.add_lit];have:=hc _ _ hj
        rwa [←Nat.add_assoc] at this)
      (by rw [hdl];omega) (fun v hv=>h1c v (qlx hv))
    rw [show Nat.min (n+1 - i) (n - i)=n - i by simp only [Nat.min_def];split<;>omega] at h
    rw [hc1];exact h
  have hc1s:c1.size=c.size:=by rw [hc1];exact over_size (by rw [hdl];omega)
  obtain ⟨c2,hc2⟩:∃c2:Array Value,c2=(c1.toList.take (off+i * 5)++vs++c1.toList.drop (off+i * 5+vs.length)).toArray:=⟨_,rfl⟩;have hcp2:∀(W:World),W.heap[b]? =some (.cells c1 t (0,0))→W.heap[vb]? =some (.cells cv tv (0,0))→∀ty dc,(Builtin.copy_ #[24,24] ty #[.slice (some ⟨b,off+i * 5,none⟩) (n+1 - i) dc,.slice (some ⟨vb,voff,none⟩) 1 vcap]).run Tryz.prog W=.ok (goInt ((1:Nat):Int)) (W.setRow b c2):=fun W hW1 hW2 ty dc=>by
    have h:=run_copy_at (P:=Tryz.prog) (w:=W) (tS:=24) (ty:=ty) (e:=26) (g:=b) (o:=off+i * 5) (dLen:=n+1 - i) (dCap:=dc) (a:=⟨vb,voff,none⟩) (sLen:=1) (sCap:=vcap) (cur:=c1) (t:=t) (cs:=vs) Tryz.underlying24 (by rw [hp];decide) hW1
      (by rw [hvs,hp,show Nat.min 1 (n+1 - i)=1 by simp only [Nat.min_def];split<;>omega])
      (fun j v hj=>by
        simp only [World.cell?,hW2,Addr.add_lit];exact hvc _ _ hj)
      (by rw [hvs,hc1s];omega) h1v
    rw [show Nat.min 1 (n+1 - i)=1 by simp only [Nat.min_def];split<;>omega] at h
    rw [hc2];exact h
  have hc2s:c2.size=c.size:=by rw [hc2,over_size (by rw [hvs,hc1s];omega),hc1s]
  have hfin:∀(j:Nat) (x:Value),(cs.take (i * 5)++(vs++cs.drop (i * 5)))[j]? =some x→c2[off+j]? =some x:=by
    intro j x hj;have e1:=over_get (c:=c) (cs:=cs.drop (i * 5)) (o:=off+(i+1) * 5) (j:=off+j) (by rw [hdl];omega);have e2:=over_get (c:=c1) (cs:=vs) (o:=off+i * 5) (j:=off+j) (by rw [hvs,hc1s];omega);rw [←hc1] at e1;rw [←hc2] at e2;have ht:(cs.take (i * 5)).length=i * 5:=by rw [qlk];omega
    by_cases q1:j < i * 5
    · rw [qli (by omega),ql0 q1] at hj
      rw [e2,if_neg (by omega),e1,if_neg (by omega)];exact hc _ _ hj
    · rw [qlj (by omega),ht] at hj
      by_cases q2:j < i * 5+5
      · rw [qli (by omega)] at hj
        rw [e2,if_pos (by omega),show off+j - (off+i * 5)=j - i * 5 by omega];exact hj
      · rw [qlj (by omega),hvs] at hj
        have hlt:j - i * 5 - 5 < (cs.drop (i * 5)).length:=by
          rcases qlp (j - i * 5 - 5) (cs.drop (i * 5)).length with q | q
          · exact q
          · rw [qlm q] at hj;cases hj
        rw [e2,if_neg (by omega),e1,if_pos (by omega),show off+j - (off+(i+1) * 5)=j - i * 5 - 5 by omega];exact hj
  clear hc1 hc2;have hw1:IntKind.i64.wrap ((i:Int)+1)=(i:Int)+1:=by rw [IntKind.wrap_i64];omega
  have hw2:IntKind.i64.wrap ((n:Int)+1)=(n:Int)+1:=by rw [IntKind.wrap_i64];omega
  have hz2:¬((i:Int)=(n:Int)):=by omega
  have hb1:(0:Int)≤(i:Int)+1:=by omega
  have hin:i≤n:=by omega
  have htn:((i:Int)+1).toNat=i+1:=by omega
  have hb2:¬(cap=i+1):=by omega
  have hb3:(i:Int)≤(n:Int)+1:=by omega
  have hb4:¬(cap=i):=by omega
  have hb5:¬((cap:Int) < (n:Int)+1):=by omega
  have mixed:Tryz.prog.follows Departure.mixedOrders=true:=by kernel_rfl
  go_enter Tryz.func51,Tryz.ntmps51
  go_wp2_with (simp only [hov])
  have key:∀(ops:Array Oper) (o:Oper) (a:Act) (K:Act→World→Prop) (Q:Exit→Act→World→Prop) (E:Prop),o.guard=none→o.op=Op.call {callee:=Callee.builtin Builtin.copy,args:=#[.tmp 73,.tmp 76],argTypes:=#[24,24]}→(a.eval (.tmp 73)=.slice (some ⟨b,off+(i+1) * 5,none⟩) (n - i) (cap - (i+1)))→(a.eval (.tmp 76)=.slice (some ⟨b,off+i * 5,none⟩) (n+1 - i) (cap - i))→K (a.put o.dst (goInt ((n - i:Nat):Int))) (w.drew.setRow b c1)→(if Region.wanted o (yielded ops a.tmps)=true then Oper.wp Tryz.prog o a w.drew K Q else E):=fun ops o a K Q E h1 h2 h3 h4 h5=>step_copy_runKC5 h1 _ _ 24 24 h2 _ _ h3 h4 (hcp1 w.drew (fun _=>rfl) _ _ _) h5
  go_region_law_o (go_loud (refine key _ _ _ _ _ _ rfl rfl (by simp [Act.eval,Act.put]) (by simp [Act.eval,Act.put]) ?_))
  clear key;have key:∀(ops:Array Oper) (rest:List Oper) (o:Oper) (a:Act) (Q:Exit→Act→World→Prop),o.guard=none→o.op=.call {callee:=.builtin .copy,args:=#[.tmp 80,.tmp 81],argTypes:=#[24,24]}→a.eval (.tmp 80)=.slice (some ⟨b,off+i * 5,none⟩) (n+1 - i) (cap - i)→a.eval (.tmp 81)=.slice (some ⟨vb,voff,none⟩) 1 vcap→wpList Tryz.prog ops Q rest (a.put o.dst (goInt ((1:Nat):Int))) ((w.drew.setRow b c1).setRow b c2)→wpList Tryz.prog ops Q (o::rest) a (w.drew.setRow b c1):=fun ops rest o a Q h1 h2 h3 h4 h5=>wpList_copy_runKC5 _ h1 _ _ 24 24 h2 _ _ h3 h4 (hcp2 _ (setRow_heap w.drew b _ c1 t (0,0) hb) (by rw [setRow_other _ _ _ _ hvb];exact hv) _ _) h5
  go_wp2_with (refine key _ _ _ _ _ rfl rfl rfl rfl ?_)
  go_ret
  exact ⟨⟨b,off,cap,c2,t,rfl,hn,by rw [hc2s];exact hfit,.inl ho,setRow_heap _ b c1 c2 t (0,0) (setRow_heap w.drew b _ c1 t (0,0) hb),hfin⟩,by simp,fun x hx hno=>by
    have hne:x≠b:=fun e=>hno (e ▸ ho)
    rw [setRow_other _ _ _ _ hne,setRow_other _ _ _ _ hne];rfl,rfl,rfl,rfl,fun x _=>by rw [frozen_setRow,frozen_setRow];rfl⟩
theorem wpList_append_runKC5 {P:Program} (w:World) {ops:Array Oper} {rest:List Oper} {o:Oper} {a:Act} {Q:Exit→Act→World→Prop} (hgd:o.guard=none) (s x:Operand) (t tn:TypeId)
    (ho:o.op=.call {callee:=.builtin .append,args:=#[s,x],argTypes:=#[t,tn]}) (vs vx:Value) (hs:a.eval s=vs) (hx:a.eval x=vx)
    (v':Value) (w':World) (hr:(Builtin.append_ #[t,tn] o.type #[vs,vx]).run P w=.ok v' w') (h:wpList P ops Q rest (a.put o.dst v') w'):wpList P ops Q (o::rest) a w:=
  wpList_plain hgd fun _ hK=>by
    unfold Oper.wp execOp;simp only [ho,resolve,invoke,builtin,Sem.run_bind,Sem.run_pure,Result.andThen_ok,List.map_toArray,List.map_cons,List.map_nil,hs,hx,hr];exact hK _ _ h
theorem first_cellsC5 {P:Program} {w:World} {b off n cap sz:Nat} {c:Array Value} {t:TypeId} {cs:List Value} (hb:w.heap[b]? =some (.cells c t (0,0))) (hl:cs.length=n * sz) (hc:∀(j:Nat) (x:Value),cs[j]? =some x→c[off+j]? =some x):(Builtin.firstCells sz n (.slice (some ⟨b,off,none⟩) n cap)).run P w=.ok cs.toArray w:=
  run_firstCells_some (P:=P) w sz n ⟨b,off,none⟩ n cap cs hl (by
    intro j v hj;simp only [World.cell?,Addr.add_lit,hb];exact hc _ _ hj)
set_option maxRecDepth 100000 in
theorem ins_endC5 (own:Nat→Prop) (q:Option Addr) (n cap vb voff vcap:Nat) (c' cv:Array Value) (t' tv:TypeId) (cs vs:List Value) (w:World)
    (hq:(n=0∧cap=0∧cs=[])∨∃b off c t,q=some ⟨b,off,none⟩∧own b∧w.heap[b]? =some (.cells c t (0,0))∧n≤cap∧off+cap * 5≤c.size∧(∀(j:Nat) (x:Value),cs[j]? =some x→c[off+j]? =some x))
    (hv:w.heap[vb]? =some (.cells cv tv (0,0))) (hcs:cs.length=n * 5) (hvs:vs.length=5)
    (hvc:∀(j:Nat) (x:Value),vs[j]? =some x→cv[voff+j]? =some x) (h1c:∀v∈cs,v.oneCell'=true) (h1v:∀v∈vs,v.oneCell'=true) (hn20:n≤1048576) :
    Calls Tryz.prog 51 #[.slice q n cap,.int .i64 n,.slice (some ⟨vb,voff,none⟩) 1 vcap] w (LeftRow w own (n+1) 5 (cs++vs)):=by
  have hp:Program.cellsOf Tryz.prog 26=5:=by kernel_rfl
  have hby:Program.bytesOf Tryz.prog 26≤1000:=by rw [show Program.bytesOf Tryz.prog 26=40 by kernel_rfl];decide
  obtain ⟨z,hz⟩:∃z,Program.zeroOf Tryz.prog 26=some z:=qlr.1 (by kernel_rfl);have hsrc:∀W:World,W.heap=w.heap→(Builtin.firstCells (Program.cellsOf Tryz.prog 26) 1 (.slice (some ⟨vb,voff,none⟩) 1 vcap)).run Tryz.prog W=.ok vs.toArray W:=fun W hW=>first_cellsC5 (by rw [hW];exact hv) (by rw [hp];exact hvs) hvc
  have hrun:∃v' w',(Builtin.append_ #[24,24] 24 #[.slice q n cap,.slice (some ⟨vb,voff,none⟩) 1 vcap]).run Tryz.prog w=.ok v' w'∧LeftRow w own (n+1) 5 (cs++vs) (.returned v') w':=by
    by_cases hroom:n+1≤cap
    · rcases hq with ⟨h0,h1,_⟩ | ⟨b,off,c,t,rfl,ho,hb,hn,hfit,hc⟩
      · omega
      · have hfc:off+n * 5+vs.length≤c.size:=by rw [hvs];omega
        refine ⟨_,_,run_append_in (w:=w) (t:=24) (e:=26) Tryz.underlying24 (by rw [hp];decide) hb ⟨_,_,rfl⟩ (hsrc w rfl) h1v hroom (by rw [hp];exact hfc),?_⟩;rw [hp];refine ⟨⟨b,off,cap,_,t,rfl,hroom,by rw [over_size hfc];exact hfit,.inl ho,setRow_heap _ _ _ _ _ _ hb,fun j x hj=> ?_⟩,by simp,fun x hx hno=>setRow_other _ _ _ _ (fun e=>hno (by rw [e];exact ho)),rfl,rfl,rfl,fun x _=>frozen_setRow _ _ _ x⟩;rw [over_get hfc]
        by_cases q1:j < n * 5
        · rw [if_neg (by omega)]
          rw [qli (by omega)] at hj;exact hc _ _ hj
        · rw [qlj (by omega),hcs] at hj
          have hlt:=(qlt.1 hj).1;rw [if_pos (by omega),show off+j - (off+n * 5)=j - n * 5 by omega];exact hj
    · have hfo:(Builtin.firstCells (Program.cellsOf Tryz.prog 26) n (.slice q n cap)).run Tryz.prog w.drew=.ok cs.toArray w.drew:=by
        rcases hq with ⟨h0,h1,h2⟩ | ⟨b,off,c,t,rfl,ho,hb,hn,hfit,hc⟩
        · subst h0;subst h2
          cases q with
          | none=>exact run_firstCells_none (P:=Tryz.prog) w.drew _ 0 0 cap
          | some ad=>exact run_firstCells_some (P:=Tryz.prog) w.drew _ 0 ad 0 cap [] (by simp) (by intro j v hj;simp at hj)
        · exact first_cellsC5 (w:=w.drew) hb (by rw [hp];exact hcs) hc
      obtain ⟨cap',hc1,hc2⟩:=run_append_out (P:=Tryz.prog) (w:=w) (t:=24) (e:=26) (ty:=24) (m:=1) Tryz.underlying24 (by rw [hp];decide) hz ⟨_,_,rfl⟩ hfo (hsrc w.drew rfl) (by omega) (by omega) (ql1 (Nat.mul_le_mul (show n+1≤1048577 by omega) hby) (by decide));refine ⟨_,_,hc2,?_⟩;have hzc:z.cells.size=5:=by
        have:=hz;have key:(Program.zeroOf Tryz.prog 26).map (fun z=>z.cells.size)=some 5:=by kernel_rfl
        rw [hz] at key;simpa using key
      have hls:(cs++vs).length=(n+1) * 5:=by rw [qlg];omega
      refine ⟨⟨w.heap.size,0,cap',(cs++vs++(Builtin.zeroCells z.cells (cap' - (n+1))).toList).toArray,26,rfl,hc1,?_,.inr (qlf _),?_,fun j x hj=> ?_⟩,by simp,fun x hx _=> ?_,rfl,rfl,rfl,fun x hx=> ?_⟩
      · simp only [List.length_append,List.size_toArray,Builtin.zeroCells]
        simp [hzc];omega
      · exact heap_new w.drew _
      · rw [Nat.zero_add,List.getElem?_toArray,qli (by rw [hls];have:=(qlt.1 hj).1;omega)]
        exact hj
      · exact (Ext.alloc w.drew _ _).old x hx
      · exact (Ext.alloc w.drew _ _).ice x hx
  obtain ⟨v',w',hr,hleft⟩:=hrun;have hz2:((1:Int)=0)=False:=by simp
  have mixed:Tryz.prog.follows Departure.mixedOrders=true:=by kernel_rfl
  have key:∀(ops:Array Oper) (rest:List Oper) (o:Oper) (a:Act) (Q:Exit→Act→World→Prop),o.guard=none→o.op=.call {callee:=.builtin .append,args:=#[.tmp 23,.tmp 24],argTypes:=#[24,24]}→o.type=24→a.eval (.tmp 23)=.slice q n cap→a.eval (.tmp 24)=.slice (some ⟨vb,voff,none⟩) 1 vcap→wpList Tryz.prog ops Q rest (a.put o.dst v') w'→wpList Tryz.prog ops Q (o::rest) a w:=fun ops rest o a Q h1 h2 ht h3 h4 h5=>wpList_append_runKC5 _ h1 _ _ 24 24 h2 _ _ h3 h4 _ _ (by rw [ht];exact hr) h5
  have hn:n≤cap∧(q=none→n=0):=by
    rcases hq with ⟨h0,_⟩ | ⟨b,off,c,t,rfl,_,_,hn,_⟩
    · omega
    · exact ⟨hn,fun e=>by cases e⟩
  clear hq hr hsrc;obtain ⟨hn,hq0⟩:=hn
  go_enter Tryz.func51,Tryz.ntmps51
  cases q with
  | none=>
    have h0:=hq0 rfl;subst h0
    go_wp2_with (at_builtin;refine key _ _ _ _ _ rfl rfl rfl rfl rfl ?_)
    go_ret
    exact hleft
  | some ad=>
    obtain ⟨ab,ao,asp⟩:=ad;clear hq0
    go_wp2_with (at_builtin;refine key _ _ _ _ _ rfl rfl rfl rfl rfl ?_)
    all_goals (go_ret;exact hleft)
set_option maxRecDepth 100000 in
theorem ins_growC5 (own:Nat→Prop) (b off n cap i vb voff vcap:Nat) (c cv:Array Value) (t tv:TypeId) (cs vs:List Value) (w:World)
    (hb:w.heap[b]? =some (.cells c t (0,0))) (hv:w.heap[vb]? =some (.cells cv tv (0,0))) (hn:n≤cap) (hroom:cap < n+1) (hcs:cs.length=n * 5) (hvs:vs.length=5)
    (hc:∀(j:Nat) (x:Value),cs[j]? =some x→c[off+j]? =some x) (hvc:∀(j:Nat) (x:Value),vs[j]? =some x→cv[voff+j]? =some x) (h1c:∀v∈cs,v.oneCell'=true) (h1v:∀v∈vs,v.oneCell'=true) (hi:i < n) (hn20:n≤1048576) :
    Calls Tryz.prog 51 #[.slice (some ⟨b,off,none⟩) n cap,.int .i64 i,.slice (some ⟨vb,voff,none⟩) 1 vcap] w (LeftRow w own (n+1) 5 (cs.take (i * 5)++(vs++cs.drop (i * 5)))):=by
  have hp:Program.cellsOf Tryz.prog 26=5:=by kernel_rfl
  have hby:Program.bytesOf Tryz.prog 26≤1000:=by rw [show Program.bytesOf Tryz.prog 26=40 by kernel_rfl];decide
  obtain ⟨z,hz⟩:∃z,Program.zeroOf Tryz.prog 26=some z:=qlr.1 (by kernel_rfl);have hzc:z.cells.size=5:=by
    have key:(Program.zeroOf Tryz.prog 26).map (fun z=>z.cells.size)=some 5:=by kernel_rfl
    rw [hz] at key;simpa using key
  obtain ⟨ie,hi1,hi2⟩:=info_of_cells (P:=Tryz.prog) (T:=26) (by rw [hp];decide);have hzero:ie.zero=some z:=by simpa [Program.zeroOf,hi1] using hz
  have hbb:Program.bytesOf Tryz.prog 26=ie.bytes:=by simp [Program.bytesOf,hi1]
  have hbw:∀{x:Nat} {o:Obj},w.heap[x]? =some o→x < w.heap.size:=fun {x o} h=>by
    rcases qlp x w.heap.size with q | q
    · exact q
    · rw [Array.getElem?_eq_none q] at h;cases h
  have hbl:=hbw hb;have hvl:=hbw hv;have hkk:(n:Int)+1 - (i:Int)=((n+1 - i:Nat):Int):=by omega
  have hik:i+(n+1 - i)=n+1:=by omega
  have htl:(cs.take (i * 5)).length=i * 5:=by rw [qlk];omega
  have hdl:(cs.drop (i * 5)).length=(n - i) * 5:=by rw [List.length_drop,hcs];omega
  have hold:(Builtin.firstCells ie.size i (.slice (some ⟨b,off,none⟩) i cap)).run Tryz.prog w.drew=.ok (cs.take (i * 5)).toArray w.drew:=by
    rw [hi2,hp];exact first_cellsC5 (w:=w.drew) hb htl (fun j x hj=>by
      rw [List.getElem?_take] at hj;split at hj
      · exact hc j x hj
      · cases hj)
  obtain ⟨G,hG⟩:∃G,G=grownCap w (n+1) cap 26:=⟨_,rfl⟩;obtain ⟨ROW,hROW⟩:∃ROW:Array Value,ROW=(cs.take (i * 5)).toArray++Builtin.zeroCells z.cells (n+1 - i)++Builtin.zeroCells z.cells (G - (n+1)):=⟨_,rfl⟩;have hGn:n+1≤G:=by rw [hG];exact grownCap_ge w _ _ _
  have hrz:(Builtin.append_ #[24,3] 24 #[.slice (some ⟨b,off,none⟩) i cap,.int .i64 ((n:Int)+1 - (i:Int))]).run Tryz.prog w=.ok (.slice (some ⟨w.heap.size,0,none⟩) (n+1) G) (w.drew.alloc (.cells ROW 26)):=by
    have hmul:(n+1) * ie.bytes≤140737488355328:=by rw [←hbb];exact ql1 (Nat.mul_le_mul (show n+1≤1048577 by omega) hby) (by decide)
    have hmul2:(n+1 - i) * ie.bytes≤(n+1) * ie.bytes:=qly _ (by omega);have h:=Lib.run_append_grow_zeros w 24 3 24 26 ie z .i64 .i64 Tryz.underlying24 Tryz.underlying3 hi1 hzero (some ⟨b,off,none⟩) i cap (cs.take (i * 5)) hold (n+1 - i) (by omega) (by rw [hi2,hp];decide) (by omega) (by omega) (by omega) (by rw [hik];exact growslice_fits hroom hmul);rw [hik] at h;rw [hkk,hROW,hG];exact h
  have hRs:ROW.size=G * 5:=by
    rw [hROW];simp only [Array.size_append,List.size_toArray,Builtin.zeroCells,htl];simp [hzc];omega
  have hRt:∀(j:Nat) (x:Value),(cs.take (i * 5))[j]? =some x→ROW[j]? =some x:=fun j x hj=>by
    have hlt:=(qlt.1 hj).1;rw [hROW,Array.append_assoc,Array.getElem?_append_left (by simpa using hlt),List.getElem?_toArray];exact hj
  obtain ⟨c1,hc1⟩:∃c1:Array Value,c1=(ROW.toList.take (i * 5)++vs++ROW.toList.drop (i * 5+vs.length)).toArray:=⟨_,rfl⟩;have hc1s:c1.size=ROW.size:=by rw [hc1];exact over_size (by rw [hvs,hRs];omega)
  obtain ⟨c2,hc2⟩:∃c2:Array Value,c2=(c1.toList.take ((i+1) * 5)++cs.drop (i * 5)++c1.toList.drop ((i+1) * 5+(cs.drop (i * 5)).length)).toArray:=⟨_,rfl⟩;have hc2s:c2.size=ROW.size:=by rw [hc2,over_size (by rw [hdl,hc1s,hRs];omega),hc1s]
  have hfin:∀(j:Nat) (x:Value),(cs.take (i * 5)++(vs++cs.drop (i * 5)))[j]? =some x→c2[j]? =some x:=by
    intro j x hj;have e1:=over_get (c:=ROW) (cs:=vs) (o:=i * 5) (j:=j) (by rw [hvs,hRs];omega);have e2:=over_get (c:=c1) (cs:=cs.drop (i * 5)) (o:=(i+1) * 5) (j:=j) (by rw [hdl,hc1s,hRs];omega);rw [←hc1] at e1;rw [←hc2] at e2
    by_cases q1:j < i * 5
    · rw [qli (by omega)] at hj
      rw [e2,if_neg (by omega),e1,if_neg (by omega)];exact hRt _ _ hj
    · rw [qlj (by omega),htl] at hj
      by_cases q2:j < i * 5+5
      · rw [qli (by omega)] at hj
        rw [e2,if_neg (by omega),e1,if_pos (by omega)];exact hj
      · rw [qlj (by omega),hvs] at hj
        have hlt:=(qlt.1 hj).1;rw [e2,if_pos (by omega),show j - (i+1) * 5=j - i * 5 - 5 by omega];exact hj
  obtain ⟨W1,hW1⟩:∃W1,W1=w.drew.alloc (.cells ROW 26):=⟨_,rfl⟩;have hN:W1.heap[w.heap.size]? =some (.cells ROW 26 (0,0)):=by rw [hW1];exact heap_new w.drew _
  have hext:∀x,x < w.heap.size→W1.heap[x]? =w.heap[x]? :=fun x hx=>by rw [hW1];exact (Ext.alloc w.drew _ _).old x hx
  have hice:∀x:Addr,x.block < w.heap.size→W1.frozen? x=w.frozen? x:=fun x hx=>by rw [hW1];exact (Ext.alloc w.drew _ _).ice x hx
  have hsz:w.heap.size≤W1.heap.size:=by rw [hW1];simp
  have hos:W1.os=w.os∧W1.tape=w.tape∧W1.output=w.output:=by rw [hW1];exact ⟨rfl,rfl,rfl⟩
  rw [←hW1] at hrz;have hcpA:∀(ty:TypeId) (dc:Nat),(Builtin.copy_ #[24,24] ty #[.slice (some ⟨w.heap.size,i * 5,none⟩) (n+1 - i) dc,.slice (some ⟨vb,voff,none⟩) 1 vcap]).run Tryz.prog W1=.ok (goInt ((1:Nat):Int)) (W1.setRow w.heap.size c1):=fun ty dc=>by
    have h:=run_copy_at (P:=Tryz.prog) (w:=W1) (tS:=24) (ty:=ty) (e:=26) (g:=w.heap.size) (o:=i * 5) (dLen:=n+1 - i) (dCap:=dc) (a:=⟨vb,voff,none⟩) (sLen:=1) (sCap:=vcap) (cur:=ROW) (t:=26) (cs:=vs) Tryz.underlying24 (by rw [hp];decide) hN
      (by rw [hvs,hp,show Nat.min 1 (n+1 - i)=1 by simp only [Nat.min_def];split<;>omega])
      (fun j v hj=>by
        simp only [World.cell?,hext vb hvl,hv,Addr.add_lit];exact hvc _ _ hj)
      (by rw [hvs,hRs];omega) h1v
    rw [show Nat.min 1 (n+1 - i)=1 by simp only [Nat.min_def];split<;>omega] at h
    rw [hc1];exact h
  have hcpB:∀(W:World),W.heap=(W1.setRow w.heap.size c1).heap→∀(ty:TypeId) (dc sc:Nat),(Builtin.copy_ #[24,24] ty #[.slice (some ⟨w.heap.size,(i+1) * 5,none⟩) (n - i) dc,.slice (some ⟨b,off+i * 5,none⟩) (n - i) sc]).run Tryz.prog W=.ok (goInt ((n - i:Nat):Int)) (W.setRow w.heap.size c2):=fun W hW ty dc sc=>by
    have h:=run_copy_at (P:=Tryz.prog) (w:=W) (tS:=24) (ty:=ty) (e:=26) (g:=w.heap.size) (o:=(i+1) * 5) (dLen:=n - i) (dCap:=dc) (a:=⟨b,off+i * 5,none⟩) (sLen:=n - i) (sCap:=sc) (cur:=c1) (t:=26) (cs:=cs.drop (i * 5)) Tryz.underlying24 (by rw [hp];decide) (by rw [hW];exact setRow_heap _ _ _ _ _ _ hN)
      (by rw [hdl,hp,show Nat.min (n - i) (n - i)=n - i by simp [Nat.min_def]])
      (fun j v hj=>by
        rw [List.getElem?_drop] at hj;simp only [World.cell?,hW,setRow_other _ _ _ _ (show b≠w.heap.size by omega),hext b hbl,hb,Addr.add_lit];have:=hc _ _ hj
        rwa [←Nat.add_assoc] at this)
      (by rw [hdl,hc1s,hRs];omega) (fun v hv=>h1c v (qlx hv))
    rw [show Nat.min (n - i) (n - i)=n - i by simp [Nat.min_def]] at h;rw [hc2];exact h
  have key1:∀(ops:Array Oper) (rest:List Oper) (o:Oper) (a:Act) (Q:Exit→Act→World→Prop),o.guard=none→o.op=.call {callee:=.builtin .append,args:=#[.tmp 34,.tmp 39],argTypes:=#[24,3]}→o.type=24→a.eval (.tmp 34)=.slice (some ⟨b,off,none⟩) i cap→a.eval (.tmp 39)=.int .i64 ((n:Int)+1 - (i:Int))→wpList Tryz.prog ops Q rest (a.put o.dst (.slice (some ⟨w.heap.size,0,none⟩) (n+1) G)) W1→wpList Tryz.prog ops Q (o::rest) a w:=fun ops rest o a Q h1 h2 ht h3 h4 h5=>wpList_append_runKC5 _ h1 _ _ 24 3 h2 _ _ h3 h4 _ _ (by rw [ht];exact hrz) h5
  have key2:∀(ops:Array Oper) (rest:List Oper) (o:Oper) (a:Act) (Q:Exit→Act→World→Prop),o.guard=none→o.op=.call {callee:=.builtin .copy,args:=#[.tmp 43,.tmp 44],argTypes:=#[24,24]}→a.eval (.tmp 43)=.slice (some ⟨w.heap.size,i * 5,none⟩) (n+1 - i) (G - i)→a.eval (.tmp 44)=.slice (some ⟨vb,voff,none⟩) 1 vcap→wpList Tryz.prog ops Q rest (a.put o.dst (goInt ((1:Nat):Int))) (W1.setRow w.heap.size c1)→wpList Tryz.prog ops Q (o::rest) a W1:=fun ops rest o a Q h1 h2 h3 h4 h5=>wpList_copy_runKC5 _ h1 _ _ 24 24 h2 _ _ h3 h4 (hcpA _ _) h5
  have key3:∀(ops:Array Oper) (o:Oper) (a:Act) (K:Act→World→Prop) (Q:Exit→Act→World→Prop) (E:Prop),o.guard=none→o.op=Op.call {callee:=Callee.builtin Builtin.copy,args:=#[.tmp 50,.tmp 53],argTypes:=#[24,24]}→(a.eval (.tmp 50)=.slice (some ⟨w.heap.size,(i+1) * 5,none⟩) (n - i) (G - (i+1)))→(a.eval (.tmp 53)=.slice (some ⟨b,off+i * 5,none⟩) (n - i) (cap - i))→K (a.put o.dst (goInt ((n - i:Nat):Int))) ((W1.setRow w.heap.size c1).drew.setRow w.heap.size c2)→(if Region.wanted o (yielded ops a.tmps)=true then Oper.wp Tryz.prog o a (W1.setRow w.heap.size c1).drew K Q else E):=fun ops o a K Q E h1 h2 h3 h4 h5=>step_copy_runKC5 h1 _ _ 24 24 h2 _ _ h3 h4 (hcpB (W1.setRow w.heap.size c1).drew rfl _ _ _) h5
  have hleft:LeftRow w own (n+1) 5 (cs.take (i * 5)++(vs++cs.drop (i * 5))) (.returned (.slice (some ⟨w.heap.size,0,none⟩) (n+1) G)) ((W1.setRow w.heap.size c1).drew.setRow w.heap.size c2):=
    ⟨⟨w.heap.size,0,G,c2,26,rfl,hGn,by rw [hc2s,hRs];omega,.inr (qlf _),setRow_heap _ _ c1 _ _ _ (setRow_heap W1 _ ROW _ _ _ hN),fun j x hj=>by rw [Nat.zero_add];exact hfin j x hj⟩,by simpa using hsz,fun x hx _=>by
      rw [setRow_other _ _ _ _ (show x≠w.heap.size by omega)];exact (setRow_other _ _ _ _ (show x≠w.heap.size by omega)).trans (hext x hx),hos.1,hos.2.1,hos.2.2,fun x hx=>by rw [frozen_setRow];exact (frozen_setRow W1 _ _ x).trans (hice x hx)⟩
  have hw1:IntKind.i64.wrap ((i:Int)+1)=(i:Int)+1:=by rw [IntKind.wrap_i64];omega
  have hw2:IntKind.i64.wrap ((n:Int)+1)=(n:Int)+1:=by rw [IntKind.wrap_i64];omega
  have hw3:IntKind.i64.wrap ((n:Int)+1 - (i:Int))=(n:Int)+1 - (i:Int):=by rw [IntKind.wrap_i64];omega
  have hz2:¬((i:Int)=(n:Int)):=by omega
  have hz3:(cap:Int) < (n:Int)+1:=by omega
  have hb1:(0:Int)≤(i:Int)+1:=by omega
  have hin:i≤n:=by omega
  have htn:((i:Int)+1).toNat=i+1:=by omega
  have hGi:¬(G=i):=by omega
  have hGim:¬(G=i+1):=by omega
  have hci:¬(cap=i):=by omega
  have hb3:(i:Int)≤(n:Int):=by omega
  have mixed:Tryz.prog.follows Departure.mixedOrders=true:=by kernel_rfl
  clear hcpA hcpB hrz hfin hRt hROW hG hc1 hc2 hW1 hext hice hkk hik hold hos hRs hc1s hc2s
  go_enter Tryz.func51,Tryz.ntmps51
  go_wp2_with (first | (at_builtin;refine key1 _ _ _ _ _ rfl rfl rfl rfl rfl ?_) | (refine key2 _ _ _ _ _ rfl rfl rfl rfl ?_))
  go_region_law_o (go_loud (refine key3 _ _ _ _ _ _ rfl rfl (by simp [Act.eval,Act.put]) (by simp [Act.eval,Act.put]) ?_))
  go_wp2
  go_ret
  exact hleft
theorem ins_conC5 (xs:List V) (y:V) (i:Nat) (kx:Kd) (hk:kx=.flat∨(kx=.thin∧xs≠[])) (hi:i≤xs.length) (hl:xs.length≤1048576) (hz:∀x∈xs,x.cells.length=5) (hy:y.cells.length=5) :
    Con Tryz.prog 51 [.ref 0,.int .i64 (Nat.cast i),.ref 1] [.arr xs kx,.arr [y] .flat] (.ref 2) [.dead,.dead,.arr (xs.take i++y::xs.drop i) .flat]:=by
  refine con_left (sz:=5) (O:=[.arr xs kx,.arr [y] .flat]) ⟨_,Tryz.func51,rfl,rfl⟩ (.inl ⟨rfl,by simp⟩) (by decide) (fun z hm=> ?_) fun w vals μ ow vis hin=> ?_
  · rcases qlh.1 hm with q | q
    · exact hz z (qlv q)
    · rcases ql4.1 q with rfl | q
      · exact hy
      · exact hz z (qlx q)
  have hv:=vals_three hin.sz;have h1:=inp_int hin (i:=1) rfl;rcases inp_row hin (i:=2) (id:=1) rfl rfl (.inl rfl) with ⟨q,_⟩ | ⟨lv,cv,tv,vs,e2,ov,hvb,v1,v2,v3,v4,v5,v6,v7,_⟩
  · cases q
  have hls:lv.sz=5:=by rw [←v4 y (qlq.2 rfl),hy]
  have hvl:vs.length=5:=by rw [←(v5 w).length];simp [hy]
  have hlen:(xs.take i++y::xs.drop i).length=xs.length+1:=by simp;omega
  have hflat:(xs.take i++y::xs.drop i).flatMap V.cells=(xs.flatMap V.cells).take (i * 5)++([y].flatMap V.cells++(xs.flatMap V.cells).drop (i * 5)):=by
    rw [List.flatMap_append,qls,flatMap_take _ 5 hz,flatMap_drop _ 5 hz];simp
  rw [hlen];rcases inp_row hin (i:=0) (id:=0) rfl rfl (hk.imp id And.left) with ⟨q,a,e0⟩ | ⟨l,c,t,cs,e0,oc,hcb,c1,c2,c3,c4,c5,c6,c7,hth⟩
  · subst q
    obtain rfl:i=0:=by simpa using hi
    refine ⟨vs,fun w'=>by simpa using v5 w',v6,?_⟩;rw [hv,e0,h1,e2];have:=ins_endC5 (fun b=>ow b≠none) a 0 0 lv.b lv.off lv.cap cv cv tv tv [] vs w (.inl ⟨rfl,rfl,rfl⟩) hvb rfl hvl v7 (by simp) v6 (by decide);simpa using this
  · have hx:xs≠[]:=by
      rcases hk with rfl | ⟨_,q⟩
      · exact hth (by simp)
      · exact q
    have hsz:l.sz=5:=by
      obtain ⟨x,hm⟩:=List.exists_mem_of_ne_nil _ hx;rw [←c4 x hm,hz x hm]
    rw [hsz] at c2;have hcl:cs.length=xs.length * 5:=by rw [←(c5 w).length,flatMap_len xs 5 hz]
    have hone:∀v∈cs.take (i * 5)++(vs++cs.drop (i * 5)),v.oneCell'=true:=by
      intro v hm;rcases qlh.1 hm with q | q
      · exact c6 v (qlv q)
      · rcases qlh.1 q with q | q
        · exact v6 v q
        · exact c6 v (qlx q)
    refine ⟨cs.take (i * 5)++(vs++cs.drop (i * 5)),fun w'=> ?_,hone,?_⟩
    · rw [hflat]
      have hs:RepL w' M0 ((xs.flatMap V.cells).take (i * 5)++(xs.flatMap V.cells).drop (i * 5)) cs []:=by rw [List.take_append_drop];exact c5 w'
      obtain ⟨x1,x2,b1,b2,ex,eb,r1,r2⟩:=RepL.split _ _ hs;have hb:=List.append_eq_nil_iff.1 eb.symm;have hx1:x1.length=i * 5:=by rw [←r1.length,qlk,flatMap_len xs 5 hz];omega
      have e1:cs.take (i * 5)=x1:=by rw [ex,←hx1,List.take_left]
      have e2':cs.drop (i * 5)=x2:=by rw [ex,←hx1,List.drop_left]
      rw [e1,e2'];rw [hb.1] at r1;rw [hb.2] at r2;exact r1.append ((v5 w').append r2)
    · rw [hv,e0,h1,e2]
      have hvb':lv.b≠l.b:=fun e=>by rw [e,oc] at ov;simp at ov
      rcases Nat.lt_or_eq_of_le hi with q | q
      · by_cases hroom:xs.length+1≤l.cap
        · exact ins_shiftC5 (fun b=>ow b≠none) l.b l.off xs.length l.cap i lv.b lv.off lv.cap c cv t tv cs vs w hcb hvb hvb' hroom c2 hcl hvl c7 v7 c6 v6 q hl (by show ow l.b≠none;rw [oc];simp)
        · exact ins_growC5 (fun b=>ow b≠none) l.b l.off xs.length l.cap i lv.b lv.off lv.cap c cv t tv cs vs w hcb hvb c1 (by omega) hcl hvl c7 v7 c6 v6 q hl
      · subst q
        have:=ins_endC5 (fun b=>ow b≠none) (some ⟨l.b,l.off,none⟩) xs.length l.cap lv.b lv.off lv.cap cv cv tv tv cs vs w (.inr ⟨l.b,l.off,c,t,rfl,by show ow l.b≠none;rw [oc];simp,hcb,c1,c2,c7⟩) hvb hcl hvl v7 c6 v6 hl;rw [List.take_of_length_le (by omega),List.drop_of_length_le (by omega),ql8];exact this
end Go.Proofs.YtmhaafinhpopmaaGreatDoor
