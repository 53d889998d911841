/- What functions compute. No condition. -/
import Derived.Test.YtaefoaghpehbpaaGreatUz
import Derived.Test.YtaefoaghpehbpaaGreatUty
import Derived.Test.YtaefoaghpehbpaaGreatUmG
import Derived.Test.YtaefoaghpehbpaaGreatShelf
import Derived.Test.YtaefoaghpehbpaaGreatUmI
import Derived.Test.YtaefoaghpehbpaaGreatX15
import Derived.Test.YtaefoaghpehbpaaGreatX1
import Derived.Test.YtaefoaghpehbpaaGreatX8
set_option linter.unusedSimpArgs false
set_option linter.unusedVariables false
set_option linter.defProp false
namespace Go.Proofs.YtaefoaghpehbpaaGreat
open Go Go.Vm
set_option maxHeartbeats 8000000
theorem b8s {P:Program} (w:World) {ops:Array Oper} {rest:List Oper} {o:Oper} {a:Act} {Q:Exit→Act→World→Prop} (hgd:o.guard=none) (d s:Operand) (t t':TypeId)
    (ho:o.op=.call {callee:=.builtin .copy,args:=#[d,s],argTypes:=#[t,t']}) (v u:Value) (hd:a.eval d=v) (hs:a.eval s=u) {v':Value} {w':World}
    (hr:(Builtin.copy_ #[t,t'] o.type #[v,u]).run P w=.ok v' w') (h:wpList P ops Q rest (a.put o.dst v') w'):wpList P ops Q (o::rest) a w:=
  wpList_plain hgd fun _ hK=>by
    unfold Oper.wp execOp
    simp only [ho,resolve,invoke,builtin,Sem.run_bind,Sem.run_pure,Result.andThen_ok,List.map_toArray,List.map_cons,List.map_nil,hd,hs,hr]
    exact hK _ _ h
theorem c0q {P:Program} {ops:Array Oper} {o:Oper} {a:Act} {w:World} {K:Act→World→Prop} {Q:Exit→Act→World→Prop} {E:Prop}
    (hg:o.guard=none) (d x:Operand) (dT sT:TypeId) (hop:o.op=Op.call {callee:=Callee.builtin Builtin.copy,args:=#[d,x],argTypes:=#[dT,sT]})
    (v u:Value) (hd:a.eval d=v) (hx:a.eval x=u) {v':Value} {w':World} (hr:(Builtin.copy_ #[dT,sT] o.type #[v,u]).run P w=.ok v' w') (hK:K (a.put o.dst v') w') :
    if Region.wanted o (yielded ops a.tmps)=true then Oper.wp P o a w K Q else E:=by
  have hw:Region.wanted o (yielded ops a.tmps)=true:=by simp [Region.wanted,hg]
  rw [if_pos hw]
  unfold Oper.wp
  simp [execOp,hop,resolve,invoke,builtin,hd,hx,hr,Result.andThen]
  exact hK
set_option maxRecDepth 100000 in
theorem d8r (own:Nat→Prop) (b off n cap i vb voff vcap:Nat) (c cv:Array Value) (t tv:TypeId) (cs vs:List Value) (w:World)
    (hb:w.heap[b]? =some (.cells c t (0,0))) (hv:w.heap[vb]? =some (.cells cv tv (0,0))) (hvb:vb≠b) (hn:n+1≤cap) (hfit:off+cap≤c.size) (hcs:cs.length=n) (hvs:vs.length=1)
    (hc:∀(j:Nat) (x:Value),cs[j]? =some x→c[off+j]? =some x) (hvc:∀(j:Nat) (x:Value),vs[j]? =some x→cv[voff+j]? =some x) (h1c:∀v∈cs,v.oneCell'=true) (h1v:∀v∈vs,v.oneCell'=true) (hi:i < n) (hn20:n≤1048576) (ho:own b) :
    Calls Tryz.prog 216 #[.slice (some ⟨b,off,none⟩) n cap,.int .i64 i,.slice (some ⟨vb,voff,none⟩) 1 vcap] w (LeftRow w own (n+1) 1 (cs.take (i)++(vs++cs.drop (i)))):=by
  have hp:Program.cellsOf Tryz.prog 9=1:=by kernel_rfl
  have hbw:b < w.heap.size:=by
    rcases Nat.lt_or_ge b w.heap.size with q | q
    · exact q
    · rw [Array.getElem?_eq_none q] at hb;cases hb
  have hvne:cv.size≠0:=by
    have:=hvc 0 vs[0] (List.getElem?_eq_getElem (by omega))
    intro q
    rw [Array.getElem?_eq_none (by omega)] at this;cases this
  have hov:∀(lb cb:Nat),(callFunc 255 #[.slice (some ⟨vb,voff,none⟩) 1 vcap,.slice (some ⟨b,off+(i+1),none⟩) lb cb]).run Tryz.prog w=.ok (.value (.bool false)) w:=fun lb cb=>by
    rw [run_callFunc_extern Tryz.func255 (by kernel_rfl) (by kernel_rfl) (by kernel_rfl) (e:=Extern.SlicesOverlaps.overlaps #[51,51] #[4]) (by kernel_rfl),
      Lib.run_overlaps_apart w 51 4 9 Tryz.underlying51 1 Tryz.sizeOf9 ⟨vb,voff,none⟩ ⟨b,off+(i+1),none⟩ 1 vcap lb cb hvb tv t cv.size c.size (by simp [World.shape?,hv]) (by simp [World.shape?,hb]) (by omega) (by simp [World.frozen?,hv]) (by simp [World.frozen?,hv])]
    rfl
  have hdl:(cs.drop (i)).length=(n - i):=by rw [List.length_drop,hcs]
  obtain ⟨c1,hc1⟩:∃c1:Array Value,c1=(c.toList.take (off+(i+1))++cs.drop (i)++c.toList.drop (off+(i+1)+(cs.drop (i)).length)).toArray:=⟨_,rfl⟩
  have hcp1:∀(W:World),(∀x,W.heap[x]? =w.heap[x]?)→∀ty dc sc,(Builtin.copy_ #[51,51] ty #[.slice (some ⟨b,off+(i+1),none⟩) (n - i) dc,.slice (some ⟨b,off+i,none⟩) (n+1 - i) sc]).run Tryz.prog W=.ok (goInt ((n - i:Nat):Int)) (W.setRow b c1):=fun W hW ty dc sc=>by
    have h:=b88 (P:=Tryz.prog) (w:=W) (tS:=51) (ty:=ty) (e:=9) (g:=b) (o:=off+(i+1)) (dLen:=n - i) (dCap:=dc) (a:=⟨b,off+i,none⟩) (sLen:=n+1 - i) (sCap:=sc) (cur:=c) (t:=t) (cs:=cs.drop (i)) Tryz.underlying51 (by rw [hp];decide) (by rw [hW];exact hb)
      (by rw [hdl,hp,show Nat.min (n+1 - i) (n - i)=n - i by simp only [Nat.min_def];split<;>omega];exact (Nat.mul_one _).symm)
      (fun j v hj=>by
        rw [List.getElem?_drop] at hj
        simp only [World.cell?,hW,hb,Addr.add_lit]
        have:=hc _ _ hj
        rwa [←Nat.add_assoc] at this)
      (by rw [hdl];omega) (fun v hv=>h1c v (List.mem_of_mem_drop hv))
    rw [show Nat.min (n+1 - i) (n - i)=n - i by simp only [Nat.min_def];split<;>omega] at h
    rw [hc1];exact h
  have hc1s:c1.size=c.size:=by rw [hc1];exact c0i (by rw [hdl];omega)
  obtain ⟨c2,hc2⟩:∃c2:Array Value,c2=(c1.toList.take (off+i)++vs++c1.toList.drop (off+i+vs.length)).toArray:=⟨_,rfl⟩
  have hcp2:∀(W:World),W.heap[b]? =some (.cells c1 t (0,0))→W.heap[vb]? =some (.cells cv tv (0,0))→∀ty dc,(Builtin.copy_ #[51,51] ty #[.slice (some ⟨b,off+i,none⟩) (n+1 - i) dc,.slice (some ⟨vb,voff,none⟩) 1 vcap]).run Tryz.prog W=.ok (goInt ((1:Nat):Int)) (W.setRow b c2):=fun W hW1 hW2 ty dc=>by
    have h:=b88 (P:=Tryz.prog) (w:=W) (tS:=51) (ty:=ty) (e:=9) (g:=b) (o:=off+i) (dLen:=n+1 - i) (dCap:=dc) (a:=⟨vb,voff,none⟩) (sLen:=1) (sCap:=vcap) (cur:=c1) (t:=t) (cs:=vs) Tryz.underlying51 (by rw [hp];decide) hW1
      (by rw [hvs,hp,show Nat.min 1 (n+1 - i)=1 by simp only [Nat.min_def];split<;>omega])
      (fun j v hj=>by
        simp only [World.cell?,hW2,Addr.add_lit]
        exact hvc _ _ hj)
      (by rw [hvs,hc1s];omega) h1v
    rw [show Nat.min 1 (n+1 - i)=1 by simp only [Nat.min_def];split<;>omega] at h
    rw [hc2];exact h
  have hc2s:c2.size=c.size:=by rw [hc2,c0i (by rw [hvs,hc1s];omega),hc1s]
  have hfin:∀(j:Nat) (x:Value),(cs.take (i)++(vs++cs.drop (i)))[j]? =some x→c2[off+j]? =some x:=by
    intro j x hj
    have e1:=c3c (c:=c) (cs:=cs.drop (i)) (o:=off+(i+1)) (j:=off+j) (by rw [hdl];omega)
    have e2:=c3c (c:=c1) (cs:=vs) (o:=off+i) (j:=off+j) (by rw [hvs,hc1s];omega)
    rw [←hc1] at e1
    rw [←hc2] at e2
    have ht:(cs.take (i)).length=i:=by rw [List.length_take];omega
    by_cases q1:j < i
    · rw [List.getElem?_append_left (by omega),List.getElem?_take_of_lt q1] at hj
      rw [e2,if_neg (by omega),e1,if_neg (by omega)]
      exact hc _ _ hj
    · rw [List.getElem?_append_right (by omega),ht] at hj
      by_cases q2:j < i+1
      · rw [List.getElem?_append_left (by omega)] at hj
        rw [e2,if_pos (by omega),show off+j - (off+i)=j - i by omega]
        exact hj
      · rw [List.getElem?_append_right (by omega),hvs] at hj
        have hlt:j - i - 1 < (cs.drop (i)).length:=by
          rcases Nat.lt_or_ge (j - i - 1) (cs.drop (i)).length with q | q
          · exact q
          · rw [List.getElem?_eq_none q] at hj;cases hj
        rw [e2,if_neg (by omega),e1,if_pos (by omega),show off+j - (off+(i+1))=j - i - 1 by omega]
        exact hj
  clear hc1 hc2
  have hw1:IntKind.i64.wrap ((i:Int)+1)=(i:Int)+1:=by rw [IntKind.wrap_i64];omega
  have hw2:IntKind.i64.wrap ((n:Int)+1)=(n:Int)+1:=by rw [IntKind.wrap_i64];omega
  have hz2:¬((i:Int)=(n:Int)):=by omega
  have hb1:(0:Int)≤(i:Int)+1:=by omega
  have hin:i≤n:=by omega
  have htn:((i:Int)+1).toNat=i+1:=by omega
  have hb2:¬(cap=i+1):=by omega
  have hb3:(i:Int)≤(n:Int)+1:=by omega
  have hb4:¬(cap=i):=by omega
  have hb5:¬((cap:Int) < (n:Int)+1):=by omega
  have mixed:Tryz.prog.follows Departure.mixedOrders=true:=by kernel_rfl
  go_enter Tryz.func216,Tryz.ntmps216
  go_wp2_with (simp only [hov])
  have key:∀(ops:Array Oper) (o:Oper) (a:Act) (K:Act→World→Prop) (Q:Exit→Act→World→Prop) (E:Prop),o.guard=none→o.op=Op.call {callee:=Callee.builtin Builtin.copy,args:=#[.tmp 73,.tmp 76],argTypes:=#[51,51]}→(a.eval (.tmp 73)=.slice (some ⟨b,off+(i+1),none⟩) (n - i) (cap - (i+1)))→(a.eval (.tmp 76)=.slice (some ⟨b,off+i,none⟩) (n+1 - i) (cap - i))→K (a.put o.dst (goInt ((n - i:Nat):Int))) (w.drew.setRow b c1)→(if Region.wanted o (yielded ops a.tmps)=true then Oper.wp Tryz.prog o a w.drew K Q else E):=fun ops o a K Q E h1 h2 h3 h4 h5=>c0q h1 _ _ 51 51 h2 _ _ h3 h4 (hcp1 w.drew (fun _=>rfl) _ _ _) h5
  go_region_law_o (go_loud (refine key _ _ _ _ _ _ rfl rfl (by simp [Act.eval,Act.put]) (by simp [Act.eval,Act.put]) ?_))
  clear key
  have key:∀(ops:Array Oper) (rest:List Oper) (o:Oper) (a:Act) (Q:Exit→Act→World→Prop),o.guard=none→o.op=.call {callee:=.builtin .copy,args:=#[.tmp 80,.tmp 81],argTypes:=#[51,51]}→a.eval (.tmp 80)=.slice (some ⟨b,off+i,none⟩) (n+1 - i) (cap - i)→a.eval (.tmp 81)=.slice (some ⟨vb,voff,none⟩) 1 vcap→wpList Tryz.prog ops Q rest (a.put o.dst (goInt ((1:Nat):Int))) ((w.drew.setRow b c1).setRow b c2)→wpList Tryz.prog ops Q (o::rest) a (w.drew.setRow b c1):=fun ops rest o a Q h1 h2 h3 h4 h5=>b8s _ h1 _ _ 51 51 h2 _ _ h3 h4 (hcp2 _ (setRow_heap w.drew b _ c1 t (0,0) hb) (by rw [setRow_other _ _ _ _ hvb];exact hv) _ _) h5
  go_wp2_with (refine key _ _ _ _ _ rfl rfl rfl rfl ?_)
  go_ret
  exact ⟨⟨b,off,cap,c2,t,rfl,hn,by rw [hc2s,Nat.mul_one];exact hfit,.inl ho,setRow_heap _ b c1 c2 t (0,0) (setRow_heap w.drew b _ c1 t (0,0) hb),hfin⟩,by simp,fun x hx hno=>by
    have hne:x≠b:=fun e=>hno (e ▸ ho)
    rw [setRow_other _ _ _ _ hne,setRow_other _ _ _ _ hne];rfl,rfl,rfl,rfl,fun x _=>by rw [b21,b21];rfl⟩
theorem b7g {P:Program} (w:World) {ops:Array Oper} {rest:List Oper} {o:Oper} {a:Act} {Q:Exit→Act→World→Prop} (hgd:o.guard=none) (s x:Operand) (t tn:TypeId)
    (ho:o.op=.call {callee:=.builtin .append,args:=#[s,x],argTypes:=#[t,tn]}) (vs vx:Value) (hs:a.eval s=vs) (hx:a.eval x=vx)
    (v':Value) (w':World) (hr:(Builtin.append_ #[t,tn] o.type #[vs,vx]).run P w=.ok v' w') (h:wpList P ops Q rest (a.put o.dst v') w'):wpList P ops Q (o::rest) a w:=
  wpList_plain hgd fun _ hK=>by
    unfold Oper.wp execOp
    simp only [ho,resolve,invoke,builtin,Sem.run_bind,Sem.run_pure,Result.andThen_ok,List.map_toArray,List.map_cons,List.map_nil,hs,hx,hr]
    exact hK _ _ h
theorem b94 {P:Program} {w:World} {b off n cap sz:Nat} {c:Array Value} {t:TypeId} {cs:List Value} (hb:w.heap[b]? =some (.cells c t (0,0))) (hl:cs.length=n * sz) (hc:∀(j:Nat) (x:Value),cs[j]? =some x→c[off+j]? =some x):(Builtin.firstCells sz n (.slice (some ⟨b,off,none⟩) n cap)).run P w=.ok cs.toArray w:=
  run_firstCells_some (P:=P) w sz n ⟨b,off,none⟩ n cap cs hl (by
    intro j v hj
    simp only [World.cell?,Addr.add_lit,hb]
    exact hc _ _ hj)
set_option maxRecDepth 100000 in
theorem d7j (own:Nat→Prop) (q:Option Addr) (n cap vb voff vcap:Nat) (c' cv:Array Value) (t' tv:TypeId) (cs vs:List Value) (w:World)
    (hq:(n=0∧cap=0∧cs=[])∨∃b off c t,q=some ⟨b,off,none⟩∧own b∧w.heap[b]? =some (.cells c t (0,0))∧n≤cap∧off+cap≤c.size∧(∀(j:Nat) (x:Value),cs[j]? =some x→c[off+j]? =some x))
    (hv:w.heap[vb]? =some (.cells cv tv (0,0))) (hcs:cs.length=n) (hvs:vs.length=1)
    (hvc:∀(j:Nat) (x:Value),vs[j]? =some x→cv[voff+j]? =some x) (h1c:∀v∈cs,v.oneCell'=true) (h1v:∀v∈vs,v.oneCell'=true) (hn20:n≤1048576) :
    Calls Tryz.prog 216 #[.slice q n cap,.int .i64 n,.slice (some ⟨vb,voff,none⟩) 1 vcap] w (LeftRow w own (n+1) 1 (cs++vs)):=by
  have hp:Program.cellsOf Tryz.prog 9=1:=by kernel_rfl
  have hby:Program.bytesOf Tryz.prog 9≤1000:=by rw [show Program.bytesOf Tryz.prog 9=16 by kernel_rfl];decide
  obtain ⟨z,hz⟩:∃z,Program.zeroOf Tryz.prog 9=some z:=Option.isSome_iff_exists.1 (by kernel_rfl)
  have hsrc:∀W:World,W.heap=w.heap→(Builtin.firstCells (Program.cellsOf Tryz.prog 9) 1 (.slice (some ⟨vb,voff,none⟩) 1 vcap)).run Tryz.prog W=.ok vs.toArray W:=fun W hW=>b94 (by rw [hW];exact hv) (by rw [hp];exact hvs) hvc
  have hrun:∃v' w',(Builtin.append_ #[51,51] 51 #[.slice q n cap,.slice (some ⟨vb,voff,none⟩) 1 vcap]).run Tryz.prog w=.ok v' w'∧LeftRow w own (n+1) 1 (cs++vs) (.returned v') w':=by
    by_cases hroom:n+1≤cap
    · rcases hq with ⟨h0,h1,_⟩ | ⟨b,off,c,t,rfl,ho,hb,hn,hfit,hc⟩
      · omega
      · have hfc:off+n+vs.length≤c.size:=by rw [hvs];omega
        refine ⟨_,_,c2v (w:=w) (t:=51) (e:=9) Tryz.underlying51 (by rw [hp];decide) hb ⟨_,_,rfl⟩ (hsrc w rfl) h1v hroom (by rw [hp,Nat.mul_one];exact hfc),?_⟩
        rw [hp]
        simp only [Nat.mul_one]
        refine ⟨⟨b,off,cap,_,t,rfl,hroom,by rw [c0i hfc,Nat.mul_one];exact hfit,.inl ho,setRow_heap _ _ _ _ _ _ hb,fun j x hj=> ?_⟩,by simp,fun x hx hno=>setRow_other _ _ _ _ (fun e=>hno (by rw [e];exact ho)),rfl,rfl,rfl,fun x _=>b21 _ _ _ x⟩
        rw [c3c hfc]
        by_cases q1:j < n
        · rw [if_neg (by omega)]
          rw [List.getElem?_append_left (by omega)] at hj
          exact hc _ _ hj
        · rw [List.getElem?_append_right (by omega),hcs] at hj
          have hlt:=(List.getElem?_eq_some_iff.1 hj).1
          rw [if_pos (by omega),show off+j - (off+n)=j - n by omega]
          exact hj
    · have hfo:(Builtin.firstCells (Program.cellsOf Tryz.prog 9) n (.slice q n cap)).run Tryz.prog w.drew=.ok cs.toArray w.drew:=by
        rcases hq with ⟨h0,h1,h2⟩ | ⟨b,off,c,t,rfl,ho,hb,hn,hfit,hc⟩
        · subst h0;subst h2
          cases q with
          | none=>exact run_firstCells_none (P:=Tryz.prog) w.drew _ 0 0 cap
          | some ad=>exact run_firstCells_some (P:=Tryz.prog) w.drew _ 0 ad 0 cap [] (by simp) (by intro j v hj;simp at hj)
        · exact b94 (w:=w.drew) hb (by rw [hp,Nat.mul_one];exact hcs) hc
      obtain ⟨cap',hc1,hc2⟩:=c1r (P:=Tryz.prog) (w:=w) (t:=51) (e:=9) (ty:=51) (m:=1) Tryz.underlying51 (by rw [hp];decide) hz ⟨_,_,rfl⟩ hfo (hsrc w.drew rfl) (by omega) (by omega) (Nat.le_trans (Nat.mul_le_mul (show n+1≤1048577 by omega) hby) (by decide))
      refine ⟨_,_,hc2,?_⟩
      have hzc:z.cells.size=1:=by
        have:=hz
        have key:(Program.zeroOf Tryz.prog 9).map (fun z=>z.cells.size)=some 1:=by kernel_rfl
        rw [hz] at key
        simpa using key
      have hls:(cs++vs).length=(n+1):=by rw [List.length_append];omega
      refine ⟨⟨w.heap.size,0,cap',(cs++vs++(Builtin.zeroCells z.cells (cap' - (n+1))).toList).toArray,9,rfl,hc1,?_,.inr (Nat.le_refl _),?_,fun j x hj=> ?_⟩,by simp,fun x hx _=> ?_,rfl,rfl,rfl,fun x hx=> ?_⟩
      · simp only [List.length_append,List.size_toArray,Builtin.zeroCells]
        simp [hzc]
        omega
      · exact b9k w.drew _
      · rw [Nat.zero_add,List.getElem?_toArray,List.getElem?_append_left (by rw [hls];have:=(List.getElem?_eq_some_iff.1 hj).1;omega)]
        exact hj
      · exact (Ext.alloc w.drew _ _).old x hx
      · exact (Ext.alloc w.drew _ _).ice x hx
  obtain ⟨v',w',hr,hleft⟩:=hrun
  have hz2:((1:Int)=0)=False:=by simp
  have mixed:Tryz.prog.follows Departure.mixedOrders=true:=by kernel_rfl
  have key:∀(ops:Array Oper) (rest:List Oper) (o:Oper) (a:Act) (Q:Exit→Act→World→Prop),o.guard=none→o.op=.call {callee:=.builtin .append,args:=#[.tmp 23,.tmp 24],argTypes:=#[51,51]}→o.type=51→a.eval (.tmp 23)=.slice q n cap→a.eval (.tmp 24)=.slice (some ⟨vb,voff,none⟩) 1 vcap→wpList Tryz.prog ops Q rest (a.put o.dst v') w'→wpList Tryz.prog ops Q (o::rest) a w:=fun ops rest o a Q h1 h2 ht h3 h4 h5=>b7g _ h1 _ _ 51 51 h2 _ _ h3 h4 _ _ (by rw [ht];exact hr) h5
  have hn:n≤cap∧(q=none→n=0):=by
    rcases hq with ⟨h0,_⟩ | ⟨b,off,c,t,rfl,_,_,hn,_⟩
    · omega
    · exact ⟨hn,fun e=>by cases e⟩
  clear hq hr hsrc
  obtain ⟨hn,hq0⟩:=hn
  go_enter Tryz.func216,Tryz.ntmps216
  cases q with
  | none=>
    have h0:=hq0 rfl
    subst h0
    go_wp2_with (at_builtin;refine key _ _ _ _ _ rfl rfl rfl rfl rfl ?_)
    go_ret
    exact hleft
  | some ad=>
    obtain ⟨ab,ao,asp⟩:=ad
    clear hq0
    go_wp2_with (at_builtin;refine key _ _ _ _ _ rfl rfl rfl rfl rfl ?_)
    all_goals (go_ret;exact hleft)
set_option maxRecDepth 100000 in
theorem f2a (own:Nat→Prop) (b off n cap i vb voff vcap:Nat) (c cv:Array Value) (t tv:TypeId) (cs vs:List Value) (w:World)
    (hb:w.heap[b]? =some (.cells c t (0,0))) (hv:w.heap[vb]? =some (.cells cv tv (0,0))) (hn:n≤cap) (hroom:cap < n+1) (hcs:cs.length=n) (hvs:vs.length=1)
    (hc:∀(j:Nat) (x:Value),cs[j]? =some x→c[off+j]? =some x) (hvc:∀(j:Nat) (x:Value),vs[j]? =some x→cv[voff+j]? =some x) (h1c:∀v∈cs,v.oneCell'=true) (h1v:∀v∈vs,v.oneCell'=true) (hi:i < n) (hn20:n≤1048576) :
    Calls Tryz.prog 216 #[.slice (some ⟨b,off,none⟩) n cap,.int .i64 i,.slice (some ⟨vb,voff,none⟩) 1 vcap] w (LeftRow w own (n+1) 1 (cs.take (i)++(vs++cs.drop (i)))):=by
  have hp:Program.cellsOf Tryz.prog 9=1:=by kernel_rfl
  have hby:Program.bytesOf Tryz.prog 9≤1000:=by rw [show Program.bytesOf Tryz.prog 9=16 by kernel_rfl];decide
  obtain ⟨z,hz⟩:∃z,Program.zeroOf Tryz.prog 9=some z:=Option.isSome_iff_exists.1 (by kernel_rfl)
  have hzc:z.cells.size=1:=by
    have key:(Program.zeroOf Tryz.prog 9).map (fun z=>z.cells.size)=some 1:=by kernel_rfl
    rw [hz] at key
    simpa using key
  obtain ⟨ie,hi1,hi2⟩:=b2l (P:=Tryz.prog) (T:=9) (by rw [hp];decide)
  have hzero:ie.zero=some z:=by simpa [Program.zeroOf,hi1] using hz
  have hbb:Program.bytesOf Tryz.prog 9=ie.bytes:=by simp [Program.bytesOf,hi1]
  have hbw:∀{x:Nat} {o:Obj},w.heap[x]? =some o→x < w.heap.size:=fun {x o} h=>by
    rcases Nat.lt_or_ge x w.heap.size with q | q
    · exact q
    · rw [Array.getElem?_eq_none q] at h;cases h
  have hbl:=hbw hb
  have hvl:=hbw hv
  have hkk:(n:Int)+1 - (i:Int)=((n+1 - i:Nat):Int):=by omega
  have hik:i+(n+1 - i)=n+1:=by omega
  have htl:(cs.take (i)).length=i:=by rw [List.length_take];omega
  have hdl:(cs.drop (i)).length=(n - i):=by rw [List.length_drop,hcs]
  have hold:(Builtin.firstCells ie.size i (.slice (some ⟨b,off,none⟩) i cap)).run Tryz.prog w.drew=.ok (cs.take (i)).toArray w.drew:=by
    rw [hi2,hp]
    exact b94 (w:=w.drew) hb (by rw [Nat.mul_one];exact htl) (fun j x hj=>by
      rw [List.getElem?_take] at hj
      split at hj
      · exact hc j x hj
      · cases hj)
  obtain ⟨G,hG⟩:∃G,G=grownCap w (n+1) cap 9:=⟨_,rfl⟩
  obtain ⟨ROW,hROW⟩:∃ROW:Array Value,ROW=(cs.take (i)).toArray++Builtin.zeroCells z.cells (n+1 - i)++Builtin.zeroCells z.cells (G - (n+1)):=⟨_,rfl⟩
  have hGn:n+1≤G:=by rw [hG];exact grownCap_ge w _ _ _
  have hrz:(Builtin.append_ #[51,3] 51 #[.slice (some ⟨b,off,none⟩) i cap,.int .i64 ((n:Int)+1 - (i:Int))]).run Tryz.prog w=.ok (.slice (some ⟨w.heap.size,0,none⟩) (n+1) G) (w.drew.alloc (.cells ROW 9)):=by
    have hmul:(n+1) * ie.bytes≤140737488355328:=by rw [←hbb];exact Nat.le_trans (Nat.mul_le_mul (show n+1≤1048577 by omega) hby) (by decide)
    have hmul2:(n+1 - i) * ie.bytes≤(n+1) * ie.bytes:=Nat.mul_le_mul_right _ (by omega)
    have h:=Lib.run_append_grow_zeros w 51 3 51 9 ie z .i64 .i64 Tryz.underlying51 Tryz.underlying3 hi1 hzero (some ⟨b,off,none⟩) i cap (cs.take (i)) hold (n+1 - i) (by omega) (by rw [hi2,hp];decide) (by omega) (by omega) (by omega) (by rw [hik];exact growslice_fits hroom hmul)
    rw [hik] at h
    rw [hkk,hROW,hG]
    exact h
  have hRs:ROW.size=G:=by
    rw [hROW]
    simp only [Array.size_append,List.size_toArray,Builtin.zeroCells,htl]
    simp [hzc]
    omega
  have hRt:∀(j:Nat) (x:Value),(cs.take (i))[j]? =some x→ROW[j]? =some x:=fun j x hj=>by
    have hlt:=(List.getElem?_eq_some_iff.1 hj).1
    rw [hROW,Array.append_assoc,Array.getElem?_append_left (by simpa using hlt),List.getElem?_toArray]
    exact hj
  obtain ⟨c1,hc1⟩:∃c1:Array Value,c1=(ROW.toList.take (i)++vs++ROW.toList.drop (i+vs.length)).toArray:=⟨_,rfl⟩
  have hc1s:c1.size=ROW.size:=by rw [hc1];exact c0i (by rw [hvs,hRs];omega)
  obtain ⟨c2,hc2⟩:∃c2:Array Value,c2=(c1.toList.take ((i+1))++cs.drop (i)++c1.toList.drop ((i+1)+(cs.drop (i)).length)).toArray:=⟨_,rfl⟩
  have hc2s:c2.size=ROW.size:=by rw [hc2,c0i (by rw [hdl,hc1s,hRs];omega),hc1s]
  have hfin:∀(j:Nat) (x:Value),(cs.take (i)++(vs++cs.drop (i)))[j]? =some x→c2[j]? =some x:=by
    intro j x hj
    have e1:=c3c (c:=ROW) (cs:=vs) (o:=i) (j:=j) (by rw [hvs,hRs];omega)
    have e2:=c3c (c:=c1) (cs:=cs.drop (i)) (o:=(i+1)) (j:=j) (by rw [hdl,hc1s,hRs];omega)
    rw [←hc1] at e1
    rw [←hc2] at e2
    by_cases q1:j < i
    · rw [List.getElem?_append_left (by omega)] at hj
      rw [e2,if_neg (by omega),e1,if_neg (by omega)]
      exact hRt _ _ hj
    · rw [List.getElem?_append_right (by omega),htl] at hj
      by_cases q2:j < i+1
      · rw [List.getElem?_append_left (by omega)] at hj
        rw [e2,if_neg (by omega),e1,if_pos (by omega)]
        exact hj
      · rw [List.getElem?_append_right (by omega),hvs] at hj
        have hlt:=(List.getElem?_eq_some_iff.1 hj).1
        rw [e2,if_pos (by omega),show j - (i+1)=j - i - 1 by omega]
        exact hj
  obtain ⟨W1,hW1⟩:∃W1,W1=w.drew.alloc (.cells ROW 9):=⟨_,rfl⟩
  have hN:W1.heap[w.heap.size]? =some (.cells ROW 9 (0,0)):=by rw [hW1];exact b9k w.drew _
  have hext:∀x,x < w.heap.size→W1.heap[x]? =w.heap[x]? :=fun x hx=>by rw [hW1];exact (Ext.alloc w.drew _ _).old x hx
  have hice:∀x:Addr,x.block < w.heap.size→W1.frozen? x=w.frozen? x:=fun x hx=>by rw [hW1];exact (Ext.alloc w.drew _ _).ice x hx
  have hsz:w.heap.size≤W1.heap.size:=by rw [hW1];simp
  have hos:W1.os=w.os∧W1.tape=w.tape∧W1.output=w.output:=by rw [hW1];exact ⟨rfl,rfl,rfl⟩
  rw [←hW1] at hrz
  have hcpA:∀(ty:TypeId) (dc:Nat),(Builtin.copy_ #[51,51] ty #[.slice (some ⟨w.heap.size,i,none⟩) (n+1 - i) dc,.slice (some ⟨vb,voff,none⟩) 1 vcap]).run Tryz.prog W1=.ok (goInt ((1:Nat):Int)) (W1.setRow w.heap.size c1):=fun ty dc=>by
    have h:=b88 (P:=Tryz.prog) (w:=W1) (tS:=51) (ty:=ty) (e:=9) (g:=w.heap.size) (o:=i) (dLen:=n+1 - i) (dCap:=dc) (a:=⟨vb,voff,none⟩) (sLen:=1) (sCap:=vcap) (cur:=ROW) (t:=9) (cs:=vs) Tryz.underlying51 (by rw [hp];decide) hN
      (by rw [hvs,hp,show Nat.min 1 (n+1 - i)=1 by simp only [Nat.min_def];split<;>omega])
      (fun j v hj=>by
        simp only [World.cell?,hext vb hvl,hv,Addr.add_lit]
        exact hvc _ _ hj)
      (by rw [hvs,hRs];omega) h1v
    rw [show Nat.min 1 (n+1 - i)=1 by simp only [Nat.min_def];split<;>omega] at h
    rw [hc1];exact h
  have hcpB:∀(W:World),W.heap=(W1.setRow w.heap.size c1).heap→∀(ty:TypeId) (dc sc:Nat),(Builtin.copy_ #[51,51] ty #[.slice (some ⟨w.heap.size,(i+1),none⟩) (n - i) dc,.slice (some ⟨b,off+i,none⟩) (n - i) sc]).run Tryz.prog W=.ok (goInt ((n - i:Nat):Int)) (W.setRow w.heap.size c2):=fun W hW ty dc sc=>by
    have h:=b88 (P:=Tryz.prog) (w:=W) (tS:=51) (ty:=ty) (e:=9) (g:=w.heap.size) (o:=(i+1)) (dLen:=n - i) (dCap:=dc) (a:=⟨b,off+i,none⟩) (sLen:=n - i) (sCap:=sc) (cur:=c1) (t:=9) (cs:=cs.drop (i)) Tryz.underlying51 (by rw [hp];decide) (by rw [hW];exact setRow_heap _ _ _ _ _ _ hN)
      (by rw [hdl,hp,show Nat.min (n - i) (n - i)=n - i by simp [Nat.min_def]];exact (Nat.mul_one _).symm)
      (fun j v hj=>by
        rw [List.getElem?_drop] at hj
        simp only [World.cell?,hW,setRow_other _ _ _ _ (show b≠w.heap.size by omega),hext b hbl,hb,Addr.add_lit]
        have:=hc _ _ hj
        rwa [←Nat.add_assoc] at this)
      (by rw [hdl,hc1s,hRs];omega) (fun v hv=>h1c v (List.mem_of_mem_drop hv))
    rw [show Nat.min (n - i) (n - i)=n - i by simp [Nat.min_def]] at h
    rw [hc2];exact h
  have key1:∀(ops:Array Oper) (rest:List Oper) (o:Oper) (a:Act) (Q:Exit→Act→World→Prop),o.guard=none→o.op=.call {callee:=.builtin .append,args:=#[.tmp 34,.tmp 39],argTypes:=#[51,3]}→o.type=51→a.eval (.tmp 34)=.slice (some ⟨b,off,none⟩) i cap→a.eval (.tmp 39)=.int .i64 ((n:Int)+1 - (i:Int))→wpList Tryz.prog ops Q rest (a.put o.dst (.slice (some ⟨w.heap.size,0,none⟩) (n+1) G)) W1→wpList Tryz.prog ops Q (o::rest) a w:=fun ops rest o a Q h1 h2 ht h3 h4 h5=>b7g _ h1 _ _ 51 3 h2 _ _ h3 h4 _ _ (by rw [ht];exact hrz) h5
  have key2:∀(ops:Array Oper) (rest:List Oper) (o:Oper) (a:Act) (Q:Exit→Act→World→Prop),o.guard=none→o.op=.call {callee:=.builtin .copy,args:=#[.tmp 43,.tmp 44],argTypes:=#[51,51]}→a.eval (.tmp 43)=.slice (some ⟨w.heap.size,i,none⟩) (n+1 - i) (G - i)→a.eval (.tmp 44)=.slice (some ⟨vb,voff,none⟩) 1 vcap→wpList Tryz.prog ops Q rest (a.put o.dst (goInt ((1:Nat):Int))) (W1.setRow w.heap.size c1)→wpList Tryz.prog ops Q (o::rest) a W1:=fun ops rest o a Q h1 h2 h3 h4 h5=>b8s _ h1 _ _ 51 51 h2 _ _ h3 h4 (hcpA _ _) h5
  have key3:∀(ops:Array Oper) (o:Oper) (a:Act) (K:Act→World→Prop) (Q:Exit→Act→World→Prop) (E:Prop),o.guard=none→o.op=Op.call {callee:=Callee.builtin Builtin.copy,args:=#[.tmp 50,.tmp 53],argTypes:=#[51,51]}→(a.eval (.tmp 50)=.slice (some ⟨w.heap.size,(i+1),none⟩) (n - i) (G - (i+1)))→(a.eval (.tmp 53)=.slice (some ⟨b,off+i,none⟩) (n - i) (cap - i))→K (a.put o.dst (goInt ((n - i:Nat):Int))) ((W1.setRow w.heap.size c1).drew.setRow w.heap.size c2)→(if Region.wanted o (yielded ops a.tmps)=true then Oper.wp Tryz.prog o a (W1.setRow w.heap.size c1).drew K Q else E):=fun ops o a K Q E h1 h2 h3 h4 h5=>c0q h1 _ _ 51 51 h2 _ _ h3 h4 (hcpB (W1.setRow w.heap.size c1).drew rfl _ _ _) h5
  have hleft:LeftRow w own (n+1) 1 (cs.take (i)++(vs++cs.drop (i))) (.returned (.slice (some ⟨w.heap.size,0,none⟩) (n+1) G)) ((W1.setRow w.heap.size c1).drew.setRow w.heap.size c2):=
    ⟨⟨w.heap.size,0,G,c2,9,rfl,hGn,by rw [hc2s,hRs];omega,.inr (Nat.le_refl _),setRow_heap _ _ c1 _ _ _ (setRow_heap W1 _ ROW _ _ _ hN),fun j x hj=>by rw [Nat.zero_add];exact hfin j x hj⟩,by simpa using hsz,fun x hx _=>by
      rw [setRow_other _ _ _ _ (show x≠w.heap.size by omega)]
      exact (setRow_other _ _ _ _ (show x≠w.heap.size by omega)).trans (hext x hx),hos.1,hos.2.1,hos.2.2,fun x hx=>by rw [b21];exact (b21 W1 _ _ x).trans (hice x hx)⟩
  have hw1:IntKind.i64.wrap ((i:Int)+1)=(i:Int)+1:=by rw [IntKind.wrap_i64];omega
  have hw2:IntKind.i64.wrap ((n:Int)+1)=(n:Int)+1:=by rw [IntKind.wrap_i64];omega
  have hw3:IntKind.i64.wrap ((n:Int)+1 - (i:Int))=(n:Int)+1 - (i:Int):=by rw [IntKind.wrap_i64];omega
  have hz2:¬((i:Int)=(n:Int)):=by omega
  have hz3:(cap:Int) < (n:Int)+1:=by omega
  have hb1:(0:Int)≤(i:Int)+1:=by omega
  have hin:i≤n:=by omega
  have htn:((i:Int)+1).toNat=i+1:=by omega
  have hGi:¬(G=i):=by omega
  have hGim:¬(G=i+1):=by omega
  have hci:¬(cap=i):=by omega
  have hb3:(i:Int)≤(n:Int):=by omega
  have mixed:Tryz.prog.follows Departure.mixedOrders=true:=by kernel_rfl
  clear hcpA hcpB hrz hfin hRt hROW hG hc1 hc2 hW1 hext hice hkk hik hold hos hRs hc1s hc2s
  go_enter Tryz.func216,Tryz.ntmps216
  go_wp2_with (first | (at_builtin;refine key1 _ _ _ _ _ rfl rfl rfl rfl rfl ?_) | (refine key2 _ _ _ _ _ rfl rfl rfl rfl ?_))
  go_region_law_o (go_loud (refine key3 _ _ _ _ _ _ rfl rfl (by simp [Act.eval,Act.put]) (by simp [Act.eval,Act.put]) ?_))
  go_wp2
  go_ret
  exact hleft
theorem f3i (xs:List V) (y:V) (i:Nat) (kx:Kd) (hk:kx=.flat∨(kx=.thin∧xs≠[])) (hi:i≤xs.length) (hl:xs.length≤1048576) (hz:∀x∈xs,x.cells.length=1) (hy:y.cells.length=1) :
    Con Tryz.prog 216 [.ref 0,.int .i64 (Nat.cast i),.ref 1] [.arr xs kx,.arr [y] .flat] (.ref 2) [.dead,.dead,.arr (xs.take i++y::xs.drop i) .flat]:=by
  refine f30 (sz:=1) (O:=[.arr xs kx,.arr [y] .flat]) ⟨_,Tryz.func216,rfl,rfl⟩ (.inl ⟨rfl,by simp⟩) (by decide) (fun z hm=> ?_) fun w vals μ ow vis hin=> ?_
  · rcases List.mem_append.1 hm with q | q
    · exact hz z (List.mem_of_mem_take q)
    · rcases List.mem_cons.1 q with rfl | q
      · exact hy
      · exact hz z (List.mem_of_mem_drop q)
  have hv:=d9m hin.sz
  have h1:=f6b hin (i:=1) rfl
  rcases f1s hin (i:=2) (id:=1) rfl rfl (.inl rfl) with ⟨q,_⟩ | ⟨lv,cv,tv,vs,e2,ov,hvb,v1,v2,v3,v4,v5,v6,v7,_⟩
  · cases q
  have hls:lv.sz=1:=by rw [←v4 y (List.mem_singleton.2 rfl),hy]
  have hvl:vs.length=1:=by rw [←(v5 w).length];simp [hy]
  have hlen:(xs.take i++y::xs.drop i).length=xs.length+1:=by simp;omega
  have hflat:(xs.take i++y::xs.drop i).flatMap V.cells=(xs.flatMap V.cells).take (i)++([y].flatMap V.cells++(xs.flatMap V.cells).drop (i)):=by
    rw [List.flatMap_append,List.flatMap_cons,b3q _ 1 hz,b4b _ 1 hz];simp
  rw [hlen]
  rcases f1s hin (i:=0) (id:=0) rfl rfl (hk.imp id And.left) with ⟨q,a,e0⟩ | ⟨l,c,t,cs,e0,oc,hcb,c1,c2,c3,c4,c5,c6,c7,hth⟩
  · subst q
    obtain rfl:i=0:=by simpa using hi
    refine ⟨vs,fun w'=>by simpa using v5 w',v6,?_⟩
    rw [hv,e0,h1,e2]
    have:=d7j (fun b=>ow b≠none) a 0 0 lv.b lv.off lv.cap cv cv tv tv [] vs w (.inl ⟨rfl,rfl,rfl⟩) hvb rfl hvl v7 (by simp) v6 (by decide)
    simpa using this
  · have hx:xs≠[]:=by
      rcases hk with rfl | ⟨_,q⟩
      · exact hth (by simp)
      · exact q
    have hsz:l.sz=1:=by
      obtain ⟨x,hm⟩:=List.exists_mem_of_ne_nil _ hx
      rw [←c4 x hm,hz x hm]
    rw [hsz,Nat.mul_one] at c2
    have hcl:cs.length=xs.length:=by rw [←(c5 w).length,b2r xs 1 hz,Nat.mul_one]
    have hone:∀v∈cs.take (i)++(vs++cs.drop (i)),v.oneCell'=true:=by
      intro v hm
      rcases List.mem_append.1 hm with q | q
      · exact c6 v (List.mem_of_mem_take q)
      · rcases List.mem_append.1 q with q | q
        · exact v6 v q
        · exact c6 v (List.mem_of_mem_drop q)
    refine ⟨cs.take (i)++(vs++cs.drop (i)),fun w'=> ?_,hone,?_⟩
    · rw [hflat]
      have hs:RepL w' M0 ((xs.flatMap V.cells).take (i)++(xs.flatMap V.cells).drop (i)) cs []:=by rw [List.take_append_drop];exact c5 w'
      obtain ⟨x1,x2,b1,b2,ex,eb,r1,r2⟩:=RepL.split _ _ hs
      have hb:=List.append_eq_nil_iff.1 eb.symm
      have hx1:x1.length=i:=by rw [←r1.length,List.length_take,b2r xs 1 hz];omega
      have e1:cs.take (i)=x1:=by rw [ex,←hx1,List.take_left]
      have e2':cs.drop (i)=x2:=by rw [ex,←hx1,List.drop_left]
      rw [e1,e2']
      rw [hb.1] at r1
      rw [hb.2] at r2
      exact r1.append ((v5 w').append r2)
    · rw [hv,e0,h1,e2]
      have hvb':lv.b≠l.b:=fun e=>by rw [e,oc] at ov;simp at ov
      rcases Nat.lt_or_eq_of_le hi with q | q
      · by_cases hroom:xs.length+1≤l.cap
        · exact d8r (fun b=>ow b≠none) l.b l.off xs.length l.cap i lv.b lv.off lv.cap c cv t tv cs vs w hcb hvb hvb' hroom c2 hcl hvl c7 v7 c6 v6 q hl (by show ow l.b≠none;rw [oc];simp)
        · exact f2a (fun b=>ow b≠none) l.b l.off xs.length l.cap i lv.b lv.off lv.cap c cv t tv cs vs w hcb hvb c1 (by omega) hcl hvl c7 v7 c6 v6 q hl
      · subst q
        have:=d7j (fun b=>ow b≠none) (some ⟨l.b,l.off,none⟩) xs.length l.cap lv.b lv.off lv.cap cv cv tv tv cs vs w (.inr ⟨l.b,l.off,c,t,rfl,by show ow l.b≠none;rw [oc];simp,hcb,c1,c2,c7⟩) hvb hcl hvl v7 c6 v6 hl
        rw [List.take_of_length_le (by omega),List.drop_of_length_le (by omega),List.append_nil]
        exact this
theorem d6x {m:Nat} {s:St} (id t:Nat) (k:Kd) (hO:s.O[id]? =some (.arr [] k)) (hk:k≠.thin) (ht:s.get t=.ref id):b5i m s {s with env:=c45 t .nsl s.env}:=by
  intro cx a w μ ow hmu h
  refine ⟨μ,ow,h.dfr,h.sz,fun k'=> ?_,h.blk,h.dom,h.owl,h.own,h.frm,h.mu⟩
  show ∃bl,Rep w μ (Go.Vm.look k' (c45 t .nsl s.env)) _ bl∧_
  have hne:Go.Vm.look t s.env≠.any:=by
    have:Go.Vm.look t s.env=.ref id:=ht
    rw [this];simp
  rw [c1u t _ s.env k' (.inl hne)]
  by_cases hkt:k'=t
  · subst hkt
    rw [if_pos rfl]
    obtain ⟨bl,r1,_⟩:=h.env k'
    rw [ht] at r1
    obtain ⟨l,q1,q2,q3⟩:=h.blk id _ hO
    refine ⟨[],?_,by simp⟩
    generalize a.tmps.getD k' undef=x at r1
    cases r1 with
    | ref _ l2 _ hl hd=>
      rw [hl] at q1
      obtain rfl:=Option.some.inj q1
      cases hd with
      | real hr=>
        rcases q3 with ⟨q,_⟩ | ⟨_,_,_,_,_,q⟩
        · rw [hr] at q;cases q
        · exact absurd rfl (q hk)
      | nil ad _ _=>exact .nsl ad
  · rw [if_neg hkt]
    exact h.env k'
theorem d90 {m:Nat} {s:St} (id i:Nat) (xs pre ys:List V) (k:Kd) (hO:s.O[id]? =some (.arr xs k)) (hk:k=.deep∨k=.part) (hi:xs[i]? =some (.agg (pre++[slN ys]))) (hns:ys.all V.noSl=true) (hv:s.vw=false) :
    b5i m s {s with O:=s.O.set id (.arr (xs.set i (.agg (pre++[.ref s.O.length]))) .part)++[.arr ys .flat]}:=by
  cases ys with
  | nil=>exact d9p id i xs pre k hO hk hi
  | cons y l=>exact f1o id i xs pre (y::l) k .flat hO hk hi (by simp) (.inr ⟨rfl,hns⟩) hv
theorem f0p {m:Nat} {s:St} (b j:Nat) (pre:List V) (hb:s.O[b]? =some (.box (.agg (pre++[.ref j])) .mix)) (hj:s.O[j]? =some (.arr [] .flat)) (hne:b≠j) (h1:[V.agg (pre++[.ref j])].all V.noSl=true) (h2:[V.agg (pre++[.nsl])].all V.noSl=true) (h3:[V.agg (pre++[.nsl])].all V.noRef=true) :
    b5i m s {s with O:=(s.O.set b (.box (.agg (pre++[.nsl])) .flat)).set j .dead}:=by
  have lb:b < s.O.length:=(List.getElem?_eq_some_iff.1 hb).1
  have w1:=f50 (m:=m) (s:=s) b _ (.box (.agg (pre++[.ref j])) .part) [.agg (pre++[.ref j])] hb (.inr ⟨_,_,rfl,rfl,rfl,rfl⟩) h1
  let s1:St:={s with O:=s.O.set b (.box (.agg (pre++[.ref j])) .part)}
  have hb1:s1.O[b]? =some (.box (.agg (pre++[.ref j])) .part):=List.getElem?_set_self lb
  have hj1:s1.O[j]? =some (.arr [] .flat):=by show (s.O.set b _)[j]? =_;rw [List.getElem?_set_ne hne];exact hj
  have w2:=f4v (m:=m) (s:=s1) b j _ (.box (.agg (pre++[.nsl])) .part) [.agg (pre++[.ref j])] [.agg (pre++[.nsl])] pre [] .flat hb1 hj1 hne (.inr ⟨_,_,rfl,rfl,rfl,rfl⟩) (by simp) (by simp [V.cells]) (by simp [V.cells]) rfl (d2e (post:=[]))
  let s2:St:={s1 with O:=(s1.O.set b (.box (.agg (pre++[.nsl])) .part)).set j .dead}
  have hb2:s2.O[b]? =some (.box (.agg (pre++[.nsl])) .part):=by
    show ((s1.O.set b _).set j _)[b]? =_
    rw [List.getElem?_set_ne hne.symm,List.getElem?_set_self (by simpa [s1] using lb)]
  have w3:b5i m s2 {s2 with O:=s2.O.set b (.box (.agg (pre++[.nsl])) .flat)}:=c0c b _ _ [.agg (pre++[.nsl])] .part .flat hb2 (.inr ⟨_,_,rfl,rfl,rfl,rfl⟩) (fun _ _ _ _ _ _ q1 _=>⟨b43 q1 h3,b5k q1 h2⟩) (.inl (by simp))
  have w:=b1i w1 (b1i w2 w3)
  have e:s2.O.set b (.box (.agg (pre++[.nsl])) .flat)=(s.O.set b (.box (.agg (pre++[.nsl])) .flat)).set j .dead:=by
    simp only [s2,s1]
    rw [List.set_set,List.set_comm _ _ hne.symm,List.set_set]
  rw [e] at w
  exact w
theorem f5f {α:Type} {f:α→V} {l:List α} (h:l≠[]):slN (l.map f)=.sl (l.map f):=by
  cases l with
  | nil=>exact absurd rfl h
  | cons x l=>rfl
theorem f6c (l:List ByteArray) (s:ByteArray):slN ((b5s l s).map V.str)=.sl ((b5s l s).map V.str):=f5f (by intro e;have:=d6p l s;rw [e] at this;simp at this)
theorem f4t {m:Nat} {s:St} (id:Nat) (l:List TI) (k:Kd) (hO:s.O[id]? =some (.arr (l.map (fun t:TI=>V.agg [V.int .i64 t.1,V.int .i64 t.2.1,V.bool t.2.2.1,slN (t.2.2.2.map V.str)])) k)):b5i m s {s with O:=s.O.set id (.arr (l.map (fun t:TI=>V.agg [V.int .i64 t.1,V.int .i64 t.2.1,V.bool t.2.2.1,V.sl (t.2.2.2.map V.str)])) k)}:=by
  refine d0b id _ _ (l.map (fun t:TI=>V.agg [V.int .i64 t.1,V.int .i64 t.2.1,V.bool t.2.2.1,slN (t.2.2.2.map V.str)])) (l.map (fun t:TI=>V.agg [V.int .i64 t.1,V.int .i64 t.2.1,V.bool t.2.2.1,V.sl (t.2.2.2.map V.str)])) k hO (.inl ⟨rfl,rfl⟩) ?_ (by simp) fun n hn y hy=> ?_
  · clear hO
    induction l with
    | nil=>exact trivial
    | cons x l ih=>
      rw [List.map_cons,List.map_cons,List.flatMap_cons,List.flatMap_cons]
      refine WkL.append ?_ ih;refine ⟨.inl rfl,.inl rfl,.inl rfl,?_,trivial⟩
      cases x.2.2.2 with
      | nil=>exact .inr (.inl ⟨rfl,rfl⟩)
      | cons y l=>exact .inl rfl
  · obtain ⟨x,hx,rfl⟩:=List.mem_map.1 hy
    rw [←hn _ (List.mem_map.2 ⟨x,hx,rfl⟩)];rfl
theorem f20 (x:TI):V.noRef ((fun t:TI=>V.agg [V.int .i64 t.1,V.int .i64 t.2.1,V.bool t.2.2.1,slN (t.2.2.2.map V.str)]) x)=true:=by
  obtain ⟨a,b,c,d⟩:=x
  cases d<;>rfl
theorem f6l (l:List ByteArray) (s:ByteArray):(l.map V.str).take (c1i s l)++V.str s::(l.map V.str).drop (c1i s l)=(b5s l s).map V.str:=by
  rw [b5s,List.map_append,List.map_cons,List.map_take,List.map_drop]
def c5l (fl:List TA) (acc:List Int) (i:Int):List Int:=match fl[i.toNat]? with
  | some a=>acc.set a.2.1.toNat (acc.getD a.2.1.toNat 0 - 1)
  | none=>acc
theorem f2n (fl:List TA) (need:List Int):∀L:List Int,(b91 fl L need).2.foldl (c5l fl) need=(b91 fl L need).1:=by
  have key:∀(L:List Int) (s:List Int×List Int),s.2.foldl (c5l fl) need=s.1→(L.foldl (c5q fl) s).2.foldl (c5l fl) need=(L.foldl (c5q fl) s).1:=by
    intro L
    induction L with
    | nil=>intro s h;exact h
    | cons i L ih=>
      intro s h
      refine ih _ ?_
      unfold c5q
      split
      · rename_i a ha
        split
        · show (s.2++[i]).foldl (c5l fl) need=_
          rw [List.foldl_append,h]
          show c5l fl s.1 i=_
          rw [c5l,ha]
        · exact h
      · exact h
  exact fun L=>key L (need,[]) rfl
theorem f1p (fl:List TA):∀(L:List Int) (acc:List Int),(L.foldl (c5l fl) acc).length=acc.length
  | [],_=>rfl
  | i::L,acc=>by
    show (L.foldl (c5l fl) (c5l fl acc i)).length=_
    rw [f1p fl L,c5l]
    split
    · rw [List.length_set]
    · rfl
theorem f3a {fl:List TA} {L:List Int} {j:Nat} {i:Int} (need:List Int) (h:L[j]? =some i):(L.take (j+1)).foldl (c5l fl) need=c5l fl ((L.take j).foldl (c5l fl) need) i:=by
  rw [List.take_add_one,h,List.foldl_append];rfl
theorem d22 {fl:List TA} {b:Int} (hb:0≤b):∀(L:List Int) (acc:List Int),(∀v∈acc,-b≤v∧v≤6)→∀v∈L.foldl (c5l fl) acc,-b - L.length≤v∧v≤6
  | [],acc,h=>fun v hv=>by have:=h v hv;simp;omega
  | i :: L, acc,h=>fun v hv=>by
    have h1 : ∀v∈c5l fl acc i,-(b+1)≤v∧v≤6:=by
      intro v hv
      rw [c5l] at hv
      split at hv
      · rename_i a _
        rcases List.mem_or_eq_of_mem_set hv with q | q
        · have:=h v q;omega
        · have hk:-b≤acc.getD a.2.1.toNat 0∧acc.getD a.2.1.toNat 0≤6:=by
            rw [List.getD_eq_getElem?_getD]
            cases hz:acc[a.2.1.toNat]? with
            | none=>simp;omega
            | some z=>simpa using h z (List.mem_of_getElem? hz)
          omega
      · have:=h v hv;omega
    have:=d22 (by omega) L _ h1 v hv
    rw [List.length_cons];omega
theorem d5u (a b:ByteArray):Con Tryz.prog 253 [.str a,.str b] [] (.bool (b2f a b)) []:=by
 refine b05 [.tmp 4] [] Tryz.func253 rfl rfl rfl (by simp [Tryz.ntmps253]) ?_
 intro Q0 n0 r0
 simp only [Tryz.ntmps253,b0l,Nat.reduceAdd]
 have T:=Tys.mk (ai Ty.t4 Ty.t9)
 have F:=Fc.mk True.intro
 refine yR [0,1] ⟨?_⟩;refine f4g [4] (b9u a) (b9u b) ⟨?_⟩;refine zr ⟨?_⟩
 exact b0a rfl (by first | rfl | simp) (.inl rfl)
theorem b71 (a:ByteArray):Con Tryz.prog 254 [.str a] [] (.bool false) []:=by
 refine b05 [.tmp 2] [] Tryz.func254 rfl rfl rfl (by simp [Tryz.ntmps254]) ?_
 intro Q0 n0 r0
 simp only [Tryz.ntmps254,b0l,Nat.reduceAdd]
 have T:=Tys.mk Ty.t9
 have F:=Fc.mk True.intro
 refine yR [0] ⟨?_⟩;refine yR [2] ⟨?_⟩;refine zr ⟨?_⟩
 exact b0a rfl (by first | rfl | simp) (.inl rfl)
set_option maxRecDepth 8000 in
theorem f0z (l:List ByteArray) (s:ByteArray) (hl:l.length≤1048576) (hs:l.Pairwise fun a b=>b2f a b=true) (hns:s ∉ l):Con Tryz.prog 215 [.sl (l.map V.str),.str s] [] (.tup [.int .i64 (Nat.cast (c1i s l)),.bool false]) []:=by
 refine b05 [.tmp 4,.tmp 5] [] Tryz.func215 rfl rfl rfl (by simp [Tryz.ntmps215]) ?_
 intro Q0 n0 r0
 simp only [Tryz.ntmps215,b0l,Nat.reduceAdd]
 have T:=Tys.mk (ai Ty.t3 (ai Ty.t4 (ai Ty.t9 (ai Ty.t51 Ty.t231))))
 have F:=Fc.mk True.intro
 refine yR [0,1] ⟨?_⟩;refine yR [0,1,6] ⟨?_⟩;refine yR [0,1,6,7,8] ⟨?_⟩;refine b0c ?_;intros;refine b0g ?_;intros;refine b08 (fun p=>⟨[(0,.sl (l.map V.str)),(1,.str s),(6,.int .i64 l.length),(7,.int .i64 (Nat.cast p.1)),(8,.int .i64 (Nat.cast p.2))],[],false,54,0⟩) (fun p=>p.1≤c1i s l∧c1i s l≤p.2∧p.2≤l.length) (fun p=>p.2 - p.1) ((0,l.length):Nat×Nat) ?_ ?_ ?_
 ·refine b1a [0,1,6,7,8] ?_
  simp only [b0s,b0k,b0h,b0i,b0n,Nat.reduceEqDiff,reduceIte]
  rfl
 ·exact ⟨Nat.zero_le _,d0l s l,Nat.le_refl _⟩
 ·rintro ⟨i,j⟩ hok6 Q6 n6 e6 r6
  obtain ⟨hi1,hi2,hi3⟩:=hok6
  simp only [] at hi1 hi2 hi3⊢
  refine b0c ?_;intros;refine yR [0,1,6,7,8,15] ⟨?_⟩;refine b0d _ rfl ?_ ?_
  ·intro hc0
   have hij:i < j:=by omega
   obtain ⟨h,hh⟩:∃h,h=(i+j) / 2:=⟨_,rfl⟩
   have e1:IntKind.u64.wrap ((i:Int)+(j:Int))=(i:Int)+(j:Int):=by rw [IntKind.wrap_u64];omega
   have e2:((i:Int)+(j:Int)).fdiv (2 ^ min (Int.toNat 1) IntKind.u64.bits)=(h:Int):=by rw [show min (Int.toNat 1) IntKind.u64.bits=1 from rfl,Int.fdiv_eq_ediv_of_nonneg _ (by decide)];omega
   have e3:IntKind.i64.wrap (h:Int)=(h:Int):=by rw [IntKind.wrap_i64];omega
   obtain ⟨x,hx⟩:∃x,l[h]? =some x:=⟨_,List.getElem?_eq_getElem (by omega)⟩
   refine zn [0,1,6,7,8] ⟨?_⟩;refine b0g ?_;intros
   have F:=Fc.mk (ai e1 (ai e2 (ai e3 (gdm hx))))
   refine yR [0,1,6,7,8,9] ⟨?_⟩;refine yRc [0,1,6,7,8,9,27] (d5u x s) ⟨?_⟩;refine b0d _ rfl ?_ ?_
   ·intro hc1
    have hhi:=d2t hs hx hc1
    refine yV ⟨?_⟩;refine n6 _ (h+1,j) ?_ ?_ ?_
    ·refine b0b [0,1,6,7,8] [] ⟨?_⟩
     rfl
    ·exact ⟨hhi,hi2,hi3⟩
    ·show _ < _;show j - (h+1) < j - i;omega
   ·intro hc1
    have hlo:=d66 hx hc1
    refine yV ⟨?_⟩;refine n6 _ (i,h) ?_ ?_ ?_
    ·refine c28 [0,1,6,7,8] [] (by decide) (by simp) ?_ ?_ ?_
     ·simp [b0s,b0k,b0h,b0i,V.only,V.onlyL,idx]<;>(first | rfl | decide)
     ·simp [Blk.kindIs,b0v,b09]
     simp only [b0s,b0k,b0h,b0i,b0n,Nat.reduceEqDiff,reduceIte,St.comp,List.map_cons,List.map_nil,V.ren,V.renL,idx,List.getD_cons_zero,List.getD_cons_succ,Nat.reduceBEq,cond_true,cond_false,Option.map_some,Option.getD_some,Nat.reduceAdd,Nat.beq_eq_true_eq]
     all_goals rfl
    ·exact ⟨hi1,hlo,by show h≤l.length;omega⟩
    ·show _ < _;show h - i < j - i;omega
  ·intro hc0
   have hie:c1i s l=i:=by omega
   rcases Nat.lt_or_ge i l.length with hil | hil
   ·skip
    obtain ⟨x,hx⟩:∃x,l[i]? =some x:=⟨_,List.getElem?_eq_getElem hil⟩
    have hxs:decide (x=s)=false:=decide_eq_false fun e=>hns (e ▸ List.mem_of_getElem? hx)
    have hxe:(x=s)=False:=eq_false fun e=>hns (e ▸ List.mem_of_getElem? hx)
    have hlt:decide ((i:Int) < (l.length:Int))=true:=decide_eq_true (by omega)
    refine zn [0,1,6,7] ⟨?_⟩
    have F:=Fc.mk (ai (gdm hx) (ai hxs (ai hlt hxe)))
    refine f8e [4,5] (b71 x) (b71 s) ⟨?_⟩;refine zr ⟨?_⟩
    exact b0a rfl (by rw [hie]) (.inl rfl)
   ·skip
    obtain ⟨x,hxd⟩:∃x:ByteArray,x=s:=⟨s,rfl⟩
    have hlt:decide ((i:Int) < (l.length:Int))=false:=decide_eq_false (by omega)
    refine zn [0,1,6,7] ⟨?_⟩
    have F:=Fc.mk hlt
    refine f8e [4,5] (b71 x) (b71 s) ⟨?_⟩;refine zr ⟨?_⟩
    exact b0a rfl (by rw [hie]) (.inl rfl)
set_option maxRecDepth 8000 in
theorem f5t (l:List TI) (i:Nat) (s:ByteArray) (x0:Int) (x1:Int) (x2:Bool) (x3:List ByteArray) (hx:l[i]? =some (x0,x1,x2,x3)) (hs:x3.Pairwise fun a b=>b2f a b=true) (hns:s ∉ x3) (hnl:x3.length≤1000):Con Tryz.prog 161 [.ptr 0 i 0,.str s] [.arr (l.map (fun t:TI=>V.agg [V.int .i64 t.1,V.int .i64 t.2.1,V.bool t.2.2.1,slN (t.2.2.2.map V.str)])) .deep] (.tup []) [.arr ((l.set i (x0,x1,x2,b5s x3 s)).map (fun t:TI=>V.agg [V.int .i64 t.1,V.int .i64 t.2.1,V.bool t.2.2.1,slN (t.2.2.2.map V.str)])) .deep]:=by
 have hil:=(List.getElem?_eq_some_iff.1 hx).1
 have hix:(l.map (fun t:TI=>V.agg [V.int .i64 t.1,V.int .i64 t.2.1,V.bool t.2.2.1,slN (t.2.2.2.map V.str)]))[i]? =some (V.agg ([V.int .i64 x0,V.int .i64 x1,V.bool x2]++[slN (x3.map V.str)])):=by rw [List.getElem?_map,hx];rfl
 have hg:((l.map (fun t:TI=>V.agg [V.int .i64 t.1,V.int .i64 t.2.1,V.bool t.2.2.1,slN (t.2.2.2.map V.str)])).set i (V.agg [V.int .i64 x0,V.int .i64 x1,V.bool x2,V.ref 1])).getD i .any=V.agg [V.int .i64 x0,V.int .i64 x1,V.bool x2,V.ref 1]:=by rw [List.getD_eq_getElem?_getD,List.getElem?_set_self (by rw [List.length_map];exact hil)];rfl
 have hfin:(l.map (fun t:TI=>V.agg [V.int .i64 t.1,V.int .i64 t.2.1,V.bool t.2.2.1,slN (t.2.2.2.map V.str)])).set i (V.agg [V.int .i64 x0,V.int .i64 x1,V.bool x2,V.sl ((b5s x3 s).map V.str)])=(l.set i (x0,x1,x2,b5s x3 s)).map (fun t:TI=>V.agg [V.int .i64 t.1,V.int .i64 t.2.1,V.bool t.2.2.1,slN (t.2.2.2.map V.str)]):=by have q:=List.map_set (f:=(fun t:TI=>V.agg [V.int .i64 t.1,V.int .i64 t.2.1,V.bool t.2.2.1,slN (t.2.2.2.map V.str)])) (l:=l) (i:=i) (a:=(x0,x1,x2,b5s x3 s));simp only [f6c] at q;exact q.symm
 refine f45 [] [(216,[0,2])] Tryz.func161 rfl rfl rfl (by simp [Tryz.ntmps161]) _ (d90 0 i _ [V.int .i64 x0,V.int .i64 x1,V.bool x2] (x3.map V.str) .deep rfl (.inl rfl) hix (by rw [List.all_map,List.all_eq_true];intro a _;rfl) rfl) ?_
 intro Q0 n0 r0
 simp only [Tryz.ntmps161,b0l,Nat.reduceAdd,List.set_cons_zero,List.set_cons_succ,List.cons_append,List.nil_append,List.length_cons,List.length_nil]
 have T:=Tys.mk (ai Ty.t3 (ai Ty.t4 (ai Ty.t9 (ai Ty.t51 Ty.t99))))
 have F:=Fc.mk True.intro
 have F:=Fc.mk (ai hg (ai @List.set_set.{0} (ai @List.length_set.{0} @Int.toNat_natCast)))
 refine yRc [0,1,4] (f0z x3 s (by omega) hs hns) ⟨?_⟩;refine b4c ?_;intro K2 k2;refine zq5 ⟨?_⟩;refine c7n ⟨?_⟩;refine zq7 ⟨?_⟩;refine zq5 ⟨?_⟩;refine b9d ⟨?_⟩;refine b5v ?_;intro K k
 simp only [zE,zM,b03,b0w,b0m,Nat.reduceEqDiff,reduceIte,Nat.reduceLT,implies_true,forall_const,reduceCtorEq,V.ofValue,V.ofScalar,V.un,V.gd,b1k,b3s,b4p,‹Tys _›.h,‹Fc _›.h]
 repeat (refine f3t ?_)
 refine d1c ((by have q:=f3i (x3.map V.str) (V.str s) (c1i s x3) .flat (.inl rfl) (by rw [List.length_map];exact d0l s x3) (by rw [List.length_map];omega) (fun x hx=>by obtain ⟨_,_,rfl⟩:=List.mem_map.1 hx;rfl) rfl;rw [f6l] at q;exact q.x)) ?_
 rintro _ _ ⟨rfl,rfl⟩
 refine ⟨_,_,_,rfl,by first | exact .inl ⟨rfl,by simp [Blk.kindIs,b2g,b44]⟩ | exact .inr (by simp [V.coldIn,V.cold,idx]),?_⟩;refine k _ ?_;clear k K
 simp only [zY,zW,b0m,Nat.reduceEqDiff,reduceIte,b7f,c8k,f6q,f66,f7e,V.ren,V.renL,List.set_cons_zero,List.set_cons_succ,rho,Nat.reduceAdd,Nat.add_zero]
 refine c7n ⟨?_⟩;refine c00 ⟨?_⟩;refine f41 ⟨?_⟩;refine k2 _ ?_;refine n0 _ _ (f6h 0 _ _ _ rfl (.inl ⟨rfl,rfl⟩) (by rw [hfin,List.all_map,List.all_eq_true];intro a _;exact f20 a)) ?_
 try simp only [List.set_cons_zero,List.set_cons_succ,List.cons_append,List.nil_append,List.length_cons,List.length_nil,Nat.reduceAdd]
 refine zf ⟨?_⟩
 rw [hfin]
 exact rta
set_option maxRecDepth 8000 in
theorem d44 (fl:List TA) (order need:List Int) (hl:fl.length≤1048576) (hol:order.length≤12) (ho:∀i∈order,∃(k:Nat) (a:TA),i=(k:Int)∧fl[k]? =some a∧0≤a.2.1∧a.2.1≤3) (hn:need.length=4∧∀x∈need,0≤x∧x≤6):Con Tryz.prog 159 [.sl (fl.map (fun t:TA=>V.agg [V.str t.1,V.int .i64 t.2.1,V.int .i64 t.2.2.1,V.int .i64 t.2.2.2.1,V.int .i64 t.2.2.2.2])),.sl (order.map (V.int .i64)),.sl (need.map (V.int .i64))] [] (.ref 0) [.arr ((order.foldl (c5l fl) need).map (V.int .i64)) .flat]:=by
 refine b05 [.tmp 6] [] Tryz.func159 rfl rfl rfl (by simp [Tryz.ntmps159]) ?_
 intro Q0 n0 r0
 simp only [Tryz.ntmps159,b0l,Nat.reduceAdd]
 have T:=Tys.mk (ai Ty.t3 (ai Ty.t9 (ai Ty.t32 (ai Ty.t75 Ty.t96))))
 have F:=Fc.mk True.intro
 refine yR [0,1,2] ⟨?_⟩;refine yRc [0,1,7] (b5c need (by omega)) ⟨?_⟩;refine b0c ?_;intros;refine yR [0,7,12,13,14] ⟨?_⟩;refine b0g ?_;intros;refine b08 (fun j=>⟨[(0,.sl (fl.map (fun t:TA=>V.agg [V.str t.1,V.int .i64 t.2.1,V.int .i64 t.2.2.1,V.int .i64 t.2.2.2.1,V.int .i64 t.2.2.2.2]))),(7,.ref 0),(12,.sl (order.map (V.int .i64))),(13,.int .i64 order.length),(14,.int .i64 (Nat.cast j))],[.arr (((order.take j).foldl (c5l fl) need).map (V.int .i64)) .flat],false,30,0⟩) (fun j=>j≤order.length) (fun j=>order.length - j) 0 ?_ ?_ ?_
 ·refine b0b [0,7,12,13,14] [1] ⟨?_⟩
  rfl
 ·exact Nat.zero_le _
 ·rintro j hok6 Q6 n6 e6 r6
  have hj1:j≤order.length:=hok6
  refine yR [0,7,12,13,14,15] ⟨?_⟩;refine b0c ?_;intros;refine b0d _ rfl ?_ ?_
  ·intro hc0
   have hlt:j < order.length:=by omega
   obtain ⟨y,hy⟩:∃y,order[j]? =some y:=⟨_,List.getElem?_eq_getElem hlt⟩
   obtain ⟨k,⟨a0,a1,a2,a3,a4⟩,hk,ha,hk0,hk3⟩:=ho y (List.mem_of_getElem? hy)
   simp only [] at hk0 hk3
   obtain ⟨kd,hkd⟩:=Int.eq_ofNat_of_zero_le hk0
   subst hkd hk
   have hkl:=(List.getElem?_eq_some_iff.1 ha).1
   have hdl:((order.take j).foldl (c5l fl) need).length=4:=by rw [f1p];exact hn.1
   obtain ⟨v,hv⟩:∃v,((order.take j).foldl (c5l fl) need)[kd]? =some v:=⟨_,List.getElem?_eq_getElem (by omega)⟩
   have hvb:=d22 (fl:=fl) (b:=0) (Int.le_refl _) (order.take j) need (fun v hv=>by have:=hn.2 v hv;omega) v (List.mem_of_getElem? hv)
   have htl:(order.take j).length=j:=by rw [List.length_take];omega
   have hst:=f3a (fl:=fl) need hy
   have hds:c5l fl ((order.take j).foldl (c5l fl) need) (k:Int)=((order.take j).foldl (c5l fl) need).set kd (v - 1):=by rw [c5l,Int.toNat_natCast,ha];simp only [Int.toNat_natCast,List.getD_eq_getElem?_getD,hv,Option.getD_some]
   refine zn [0,7,12,13,14] ⟨?_⟩;refine b0c ?_;intros;refine b0g ?_;intros
   have F:=Fc.mk (ai (gdm hy) (ai (gdm ha) (ai (gdm hv) (ai hdl (ai @b3k @Int.toNat_natCast)))))
   refine yR [0,7,9,12,13,14] ⟨?_⟩;refine yQ [0,7,12,13,14] ⟨?_⟩;refine yV ⟨?_⟩;refine n6 _ (j+1) ?_ ?_ ?_
   ·refine b0b [0,7,12,13,14] [0] ⟨?_⟩
    rw [hst,hds];rfl
   ·exact hlt
   ·show _ < _;omega
  ·intro hc0
   have hje:order.take j=order:=List.take_of_length_le (by omega)
   refine zn [7] ⟨?_⟩;refine yR [6] ⟨?_⟩;refine zr ⟨?_⟩
   rw [hje]
   exact b1t rfl rfl rfl
end Go.Proofs.YtaefoaghpehbpaaGreat
