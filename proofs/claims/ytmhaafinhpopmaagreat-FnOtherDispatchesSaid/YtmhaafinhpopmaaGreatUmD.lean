/- The value machine, part 4. -/
import Derived.Test.YtmhaafinhpopmaaGreatUmC
set_option linter.unusedSimpArgs false
set_option linter.unusedVariables false
set_option linter.defProp false
namespace Go.Vm
open Go
def aStore (P:Program) (s:St) (T:TypeId) (K:St→Prop) (p v:V):Prop:=
  match p with
  | .ptr id i off=>match s.O[id]? with
    | some (.box x k)=>
      let r:=settle s.O.length v
      (r.1.isVal=true∧r.1.cells.length=P.cellsOf T∧0 < P.cellsOf T∧i=0∧off+P.cellsOf T≤x.cells.length∧(k=.deep→r.1.noSl=true∧r.1.noRef=true)∧k≠.part)∧
      K {s with O:=s.O.set id (.box (setCells x off r.1) (if k=.deep then .deep else kindOf (setCells x off r.1)))++r.2}
    | some (.arr xs k)=>match takeV s v with
      | some (v',ids,vi)=>(v'.cells.length=P.cellsOf T∧0 < P.cellsOf T∧off+P.cellsOf T≤(xs.getD i .any).cells.length∧id ∉ ids∧ids.Nodup)∧match kdJoin k (!ids.isEmpty) vi with
        | some k'=>K {s with O:=killAll (s.O.set id (.arr (xs.set i (setCells (xs.getD i .any) off v')) k')) ids}
        | none=>(k=.part∧vi=false)∧K {s with O:=killAll (s.O.set id (.arr (xs.set i (setCells (xs.getD i .any) off v')) .part)) ids}
      | none=>False
    | _=>False
  | _=>False
theorem flatMap_set:∀(xs:List V) (sz:Nat) (_:∀x∈xs,x.cells.length=sz) (i:Nat) (y:V),i < xs.length→
    (xs.set i y).flatMap V.cells=(xs.flatMap V.cells).take (i * sz)++y.cells++(xs.flatMap V.cells).drop (i * sz+sz)
  | [],_,_,i,_,hi=>by grind
  | x::xs,sz,hz,0,y,_=>by
    grind
  | x::xs,sz,hz,i+1,y,hi=>by
    have hx:=hz x (qle ..);have ih:=flatMap_set xs sz (fun z hz'=>hz z (qlg _ hz')) i y (by grind);have e:(i+1) * sz=x.cells.length+i * sz:=by grind
    rw [List.set_cons_succ,qlz,qlz,ih,e,List.take_length_add_append,Nat.add_assoc];simp
theorem setCells_cells {x v:V} {off:Nat} (h:off+v.cells.length≤x.cells.length) (h0:0 < v.cells.length):(setCells x off v).cells=x.cells.take off++v.cells++x.cells.drop (off+v.cells.length):=by
  cases x with
  | agg cs=>rfl
  | _=>
    have h':off+v.cells.length≤1:=h;have e0:off=0:=by omega
    have e1:v.cells.length=1:=by omega
    grind[setCells,V.cells]
theorem seg_set {α:Type} (L:List α) (p sz off n:Nat) (m:List α) (hm:m.length=n) (ho:off+n≤sz) (hp:p+sz≤L.length) :
    L.take p++(((L.drop p).take sz).take off++m++((L.drop p).take sz).drop (off+n))++L.drop (p+sz)=L.take (p+off)++m++L.drop (p+off+n):=by
  have h1:((L.drop p).take sz).take off=(L.drop p).take off:=by grind
  have h2:((L.drop p).take sz).drop (off+n)++L.drop (p+sz)=L.drop (p+off+n):=by
    have:L.drop (p+off+n)=(L.drop p).drop (off+n):=by grind[List.drop_drop]
    rw [this,show L.drop (p+sz)=(L.drop p).drop sz by simp]
    conv=>rhs;rw [←List.take_append_drop sz (L.drop p)]
    grind
  grind
section
variable {P:Program} {cx:Cx} {s:St} {a:Act} {w:World} {μ:Nat→Option Loc} {ow:Ow} {o:Oper}
theorem run_storeVar {T:TypeId} {b off:Nat} {v:Value} {c:Array Value} {t:TypeId} (hc:w.heap[b]? =some (.cells c t (0,0))) (hp:0 < P.cellsOf T) (hsz:v.cells.size=P.cellsOf T)
    (hfit:off+v.cells.size≤c.size) (h1:∀x∈v.cells.toList,x.oneCell'=true) :
    (Instr.storeAt T (.pointer (some ⟨b,off,none⟩)) v).run P w=.ok () (w.setRow b (c.toList.take off++v.cells.toList++c.toList.drop (off+v.cells.toList.length)).toArray):=by
  have hst:=run_storeCells_at P b off t v.cells.toList 0 c w hc (by omega) h1
  simp_all[Nat.add_zero,Instr.storeAt,Instr.sureAddr,Sem.run_bind,Sem.run_pure,Result.andThen_ok,storeVar,run_sizeOf]
theorem run_op_u {m:Sem Unit} {w':World} {T:TypeId} {x y:Operand} (ho:o.op=.store T x y) (hm:m=Instr.storeAt T (a.eval x) (a.eval y)) (h:m.run P w=.ok () w'):(execOp a.eval o).run P w=.ok .skip w':=by
  grind[execOp,Sem.run_bind,Result.andThen_ok,Sem.run_pure]
def moveOw (ow:Ow) (ids:List Nat) (id:Nat):Ow:=fun b=>match ow b with
  | some (r,j)=>if j∈ids then some (false,id) else some (r,j)
  | none=>none
theorem moveOw_none {ids:List Nat} {id b:Nat} (h:ow b=none):moveOw ow ids id b=none:=by simp [moveOw,h]
theorem moveOw_ne {ids:List Nat} {id b:Nat} (h:moveOw ow ids id b≠none):ow b≠none:=fun e=>h (moveOw_none e)
theorem moveOw_false {ids:List Nat} {id b j:Nat} (h:ow b=some (false,j)):∃j',moveOw ow ids id b=some (false,j'):=by
  grind[moveOw]
theorem moveOw_keep {ids:List Nat} {id b j:Nat} {r:Bool} (h:ow b=some (r,j)) (hj:j ∉ ids):moveOw ow ids id b=ow b:=by simp [moveOw,h,hj]
theorem moveOw_in {ids:List Nat} {id b j:Nat} {r:Bool} (h:ow b=some (r,j)) (hj:j∈ids):moveOw ow ids id b=some (false,id):=by simp [moveOw,h,hj]
theorem nil_of_not {l:List Nat} (h:(!l.isEmpty)=false):l=[]:=by
  grind
theorem kdJoin_cases {k k':Kd} {mv vi:Bool} (h:kdJoin k mv vi=some k') :
    (k=.flat∧mv=false∧vi=false∧k'=.flat)∨(k=.flat∧mv=true∧vi=false∧k'=.deep)∨(k=.thin∧mv=false∧vi=false∧k'=.thin)∨(k=.deep∧vi=false∧k'=.deep)∨(k=.flat∧mv=false∧vi=true∧k'=.shal)∨(k=.shal∧mv=false∧k'=.shal):=by
  cases k<;>cases mv<;>cases vi<;>simp [kdJoin] at h<;>subst h<;>simp
def JoinS (k:Kd) (mv vi:Bool) (k':Kd):Prop:=kdJoin k mv vi=some k'∨(k=.part∧vi=false∧k'=.part)
theorem JoinS.mu {k k':Kd} {mv vi:Bool} (h:JoinS k mv vi k') (μ:Nat→Option Loc):k'.mu μ=k.mu μ:=by
  rcases h with h | ⟨rfl,_,rfl⟩
  · rcases kdJoin_cases h with ⟨rfl,_,_,rfl⟩ | ⟨rfl,_,_,rfl⟩ | ⟨rfl,_,_,rfl⟩ | ⟨rfl,_,rfl⟩ | ⟨rfl,_,_,rfl⟩ | ⟨rfl,_,rfl⟩<;>rfl
  · rfl
theorem kd_join {k k':Kd} {id:Nat} {ids:List Nat} {vi:Bool} {vw:Bool} {b1 b2 b3 bl':List Nat} (hj:kdJoin k (!ids.isEmpty) vi=some k') (hk:KdOK cx ow vw id (b1++b2++b3) k) (hid:id ∉ ids)
    (h1:vi=false→ids=[]→bl'=[]) (h2:ids=[]→∀b∈bl',VOK cx ow vw b) (h3:vi=false→bl'.Nodup∧∀b∈bl',∃j∈ids,∃r,ow b=some (r,j)) :
    KdOK cx (moveOw ow ids id) vw id (b1++bl'++b3) k':=by
  have empty:∀{l:List Nat},(!l.isEmpty)=false→l=[]:=by simp
  have vmove:∀b,VOK cx ow vw b→VOK cx (moveOw ow ids id) vw b:=fun b hb=>hb.mono2 moveOw_none fun j e=>.inr (moveOw_false e)
  rcases kdJoin_cases hj with ⟨rfl,m1,rfl,rfl⟩ | ⟨rfl,m1,rfl,rfl⟩ | ⟨rfl,m1,rfl,rfl⟩ | ⟨rfl,rfl,rfl⟩ | ⟨rfl,m1,rfl,rfl⟩ | ⟨rfl,m1,rfl⟩
  · have h0:b1++b2++b3=[]:=hk
    simp only [List.append_eq_nil_iff] at h0;show b1++bl'++b3=[]
    grind
  · have h0:b1++b2++b3=[]:=hk
    simp only [List.append_eq_nil_iff] at h0;rw [h0.1.1,h0.2];obtain ⟨q1,q2⟩:=h3 rfl;refine ⟨by grind,fun b hb=> ?_⟩
    grind[moveOw_in]
  · have h0:b1++b2++b3=[]:=hk
    simp only [List.append_eq_nil_iff] at h0;show b1++bl'++b3=[]
    grind
  · obtain ⟨q1,q2⟩:=h3 rfl
    have hnd:=hk.1;have hown:=hk.2;have hn:=List.nodup_append.1 hnd;have hn12:=List.nodup_append.1 hn.1;have cross:∀x∈bl',∀y,ow y=some (false,id)→x≠y:=by
      grind
    have o1:∀y∈b1,ow y=some (false,id):=fun y hy=>hown y (by grind)
    have o3:∀y∈b3,ow y=some (false,id):=fun y hy=>hown y (by grind)
    refine ⟨?_,fun b hb=> ?_⟩
    · grind
    grind[moveOw_keep,moveOw_in]
  · have h0:b1++b2++b3=[]:=hk
    simp only [List.append_eq_nil_iff] at h0;intro b hb
    grind
  · intro b hb
    rcases qll.1 hb with hb | hb
    · rcases qll.1 hb with hb | hb
      · exact vmove b (hk b (by grind))
      grind
    · exact vmove b (hk b (by grind))
theorem kd_joinS {k k':Kd} {id:Nat} {ids:List Nat} {vi:Bool} {vw:Bool} {b1 b2 b3 bl':List Nat} (hj:JoinS k (!ids.isEmpty) vi k') (hk:KdOK cx ow vw id (b1++b2++b3) k) (hid:id ∉ ids)
    (h1:vi=false→ids=[]→bl'=[]) (h2:ids=[]→∀b∈bl',VOK cx ow vw b) (h3:vi=false→bl'.Nodup∧∀b∈bl',∃j∈ids,∃r,ow b=some (r,j)) :
    KdOK cx (moveOw ow ids id) vw id (b1++bl'++b3) k':=by
  rcases hj with hj | ⟨rfl,rfl,rfl⟩
  · grind[kd_join]
  · exact kd_join (k:=.deep) (k':=.deep) (vi:=false) (by cases ids.isEmpty<;>rfl) hk hid h1 h2 h3
theorem kdJoin_ne_mix {k k':Kd} {mv vi:Bool} (h:kdJoin k mv vi=some k'):k.nm=true∧k'.nm=true:=by
  rcases kdJoin_cases h with ⟨rfl,_,_,rfl⟩ | ⟨rfl,_,_,rfl⟩ | ⟨rfl,_,_,rfl⟩ | ⟨rfl,_,rfl⟩ | ⟨rfl,_,_,rfl⟩ | ⟨rfl,_,rfl⟩<;>exact ⟨rfl,rfl⟩
theorem mu_ne_mix {k:Kd} (h:k.nm=true) (μ:Nat→Option Loc):k.mu μ=M0:=by cases k<;>first | rfl | simp_all
theorem store_arr (h:Rel cx s a w μ ow) {K:St→Prop} (T:TypeId) (p x:Operand) (ho:o.op=.store T p x) (hgp:(s.ev p).gd=true) (hgx:(s.ev x).gd=true) (id i off:Nat) (hp:(s.ev p).un=.ptr id i off)
    (xs:List V) (k:Kd) (hO:s.O[id]? =some (.arr xs k)) (v':V) (ids:List Nat) (vi:Bool) (ht:takeV s (s.ev x).un=some (v',ids,vi)) (hlen:v'.cells.length=P.cellsOf T) (hpos:0 < P.cellsOf T)
    (hoff:off+P.cellsOf T≤(xs.getD i .any).cells.length) (hid:id ∉ ids) (hnd:ids.Nodup) (k':Kd) (hj:JoinS k (!ids.isEmpty) vi k')
    (hk:K {s with O:=killAll (s.O.set id (.arr (xs.set i (setCells (xs.getD i .any) off v')) k')) ids}) :
    ∃w' s' μ' ow',(execOp a.eval o).run P w=.ok .skip w'∧Rel cx s' a w' μ' ow'∧s'.n=s.n∧K s':=by
  have hsup:=h.sup;obtain ⟨bp,rp,_⟩:=hsup.evu p hgp;obtain ⟨bx,rx,vx⟩:=hsup.evu x hgx;rw [hp] at rp;obtain ⟨l,hl,hi,ep⟩:=rp.ptr_inv;obtain ⟨bl',t1,t2,t3,t4⟩:=takeV_rep hsup rx vx ht hnd;obtain ⟨l',q1,q2,q3⟩:=h.blk id _ hO;rw [hl] at q1;obtain rfl:=Option.some.inj q1;have hi':i < xs.length:=by omega
  rcases q3 with ⟨_,q3⟩ | ⟨q3,q4,bl,q5,q6,q7⟩
  · grind
  have t1':RepL w (k.mu μ) v'.cells (a.eval x).cells.toList bl':=t1.keep (MLe.zero _) fun _ _=>rfl
  have hz:=q5.each;have hxl:(xs.getD i .any).cells.length=l.sz:=hz _ (by grind);rw [hxl] at hoff;obtain ⟨c,t,vs,g4,g5,g6,g7,g8⟩:=q5.row;have hvl:vs.length=xs.length * l.sz:=by rw [←g6.length,flatMap_len xs l.sz hz]
  have hnews:(a.eval x).cells.toList.length=P.cellsOf T:=by rw [←t1.length,hlen]
  have hmul:(i+1) * l.sz≤xs.length * l.sz:=ql8 _ hi';rw [Nat.add_mul,Nat.one_mul] at hmul;have hcap:xs.length * l.sz≤l.cap * l.sz:=ql8 _ (by have:=q5.le;omega);have hL:(xs.flatMap V.cells).length=xs.length * l.sz:=flatMap_len xs l.sz hz;have hset:(xs.set i (setCells (xs.getD i .any) off v')).flatMap V.cells=(xs.flatMap V.cells).take (i * l.sz+off)++v'.cells++(xs.flatMap V.cells).drop (i * l.sz+off+v'.cells.length):=by
    rw [flatMap_set xs l.sz hz i _ hi',setCells_cells (by omega) (by omega),←flatMap_elem xs l.sz hz i hi'];exact seg_set (xs.flatMap V.cells) (i * l.sz) l.sz off v'.cells.length v'.cells rfl (by omega) (by omega)
  have e3:xs.flatMap V.cells=(xs.flatMap V.cells).take (i * l.sz+off)++(((xs.flatMap V.cells).drop (i * l.sz+off)).take v'.cells.length++(xs.flatMap V.cells).drop (i * l.sz+off+v'.cells.length)):=by
    grind[V.cells,List.drop_drop,List.take_append_drop]
  have g6':=g6;rw [e3] at g6';obtain ⟨x1,x23,b1,b23,ev1,eb1,r1,r23⟩:=RepL.split _ _ g6';obtain ⟨x2,x3,b2,b3,ev2,eb2,r2,r3⟩:=RepL.split _ _ r23;have hx1:x1.length=i * l.sz+off:=by rw [←r1.length,qls];omega
  have hx2:x2.length=v'.cells.length:=by rw [←r2.length,qls,qmh];omega
  have ebl:bl=b1++b2++b3:=by grind
  have etake:vs.take (i * l.sz+off)=x1:=by grind
  have edrop:vs.drop (i * l.sz+off+v'.cells.length)=x3:=by grind[List.drop_drop,List.drop_left]
  let ow':=moveOw ow ids id;let news:=(a.eval x).cells.toList;have hnl:news.length=v'.cells.length:=by grind
  have hblb : ∀b∈b1++bl'++b3,b≠l.b:=by
    intro b hb e;subst e;have hnr:∀y,y=l.b→(VOK cx ow s.vw y→False):=fun y hy hv=>by subst hy;exact hv.not_root q4
    have hold:∀y∈bl,y=l.b→False:=by
      intro y hy e;subst e;cases k with
      | flat | thin=>have:bl=[]:=q6;grind
      | deep=>have:=q6.2 _ hy;grind
      | shal=>exact hnr _ rfl (q6 _ hy)
      | mix=>exact hnr _ rfl (q6 _ hy)
      | part=>have:=q6.2 _ hy;grind
    rcases qll.1 hb with hb | hb
    · rcases qll.1 hb with hb | hb
      · grind
      · cases vi with
        | false=>
          obtain ⟨j,hj1,r,e⟩:=(t4 rfl).2 _ hb
          grind
        | true=>
          have hnil:ids=[]:=by
            rcases hj with hj | ⟨_,e,_⟩
            rcases kdJoin_cases hj with ⟨_,_,e,_⟩ | ⟨_,_,e,_⟩ | ⟨_,_,e,_⟩ | ⟨_,e,_⟩ | ⟨_,m1,_,_⟩ | ⟨_,m1,_⟩
            · cases e
            · cases e
            · cases e
            · cases e
            · grind
            · grind
            grind
          grind
    grind
  have hvs':vs.take (i * l.sz+off)++news++vs.drop (i * l.sz+off+news.length)=x1++news++x3:=by grind
  have hx3:x3.length=vs.length - (i * l.sz+off+v'.cells.length):=by grind
  have hsl:∀y,y∈xs.set i (setCells (xs.getD i .any) off v')→y.cells.length=l.sz:=by
    intro y hy;rcases List.mem_or_eq_of_mem_set hy with q | q
    · grind
    · subst q
      rw [setCells_cells (by omega) (by omega)];simp only [List.length_append,List.length_take,List.length_drop,hxl];omega
  have hcells:=cells_put (μ':=k.mu μ) (l:=l) (xs':=xs.set i (setCells (xs.getD i .any) off v')) (bl':=b1++bl'++b3) (o:=i * l.sz+off) (news:=news) (vs:=vs) (vs':=x1++news++x3) c t g4 g5 q5.sz g7 g8
    (by rw [qln];have:=q5.le;omega) (by omega) hsl t2 (by rw [hset];exact (r1.append t1').append r3) (by grind) (by omega) hblb
  have hlset:({l with n:=(xs.set i (setCells (xs.getD i .any) off v')).length}:Loc)=l:=by rw [qln,←q2]
  rw [hlset] at hcells;have hrun:(Instr.storeAt T (a.eval p) (a.eval x)).run P w=.ok () (w.setRow l.b (c.toList.take (l.off+(i * l.sz+off))++news++c.toList.drop (l.off+(i * l.sz+off)+news.length)).toArray):=by
    rw [ep];exact run_storeVar g4 hpos (by omega) (by grind) t2
  have hlid:id < s.O.length:=by
    grind
  refine ⟨_,{s with O:=killAll (s.O.set id (.arr (xs.set i (setCells (xs.getD i .any) off v')) k')) ids},μ,ow',run_op_u ho rfl hrun,?_,rfl,hk⟩
  refine h.mut (O':=killAll (s.O.set id (.arr (xs.set i (setCells (xs.getD i .any) off v')) k')) ids) (fun j=>j=id) (MLe.refl μ) ?_ ?_ ?_ rfl rfl rfl (fun x _=>frozen_setRow _ _ _ x) ?_ ?_ ?_ ?_ ?_
  · intro j hj
    rw [killAll_len,qln] at hj;exact h.dom j hj
  · simp
  · intro b hb hnt
    refine setRow_other w l.b b _ fun e=> ?_
    grind
  · grind[moveOw_none]
  · exact fun b j e=>.inr (moveOw_false e)
  · intro j bk e
    by_cases hd:bk=.dead
    · subst hd;exact .inr trivial
    · obtain ⟨e1,e2⟩:=killAll_get ids _ j bk e hd
      by_cases hjid:j=id
      · subst hjid
        rw [qlj hlid] at e1;simp only [Option.some.injEq] at e1;subst e1;right;refine ⟨l,hl,by grind,.inr ⟨q3,(moveOw_keep q4 hid).trans q4,_,by rw [hj.mu];omega,?_,fun _ q=>by grind⟩⟩
        grind[kd_joinS]
      grind[List.getElem?_set_ne,moveOw_keep]
  · intro b hb
    exact (h.owl b (moveOw_ne hb)).setRow
  grind[moveOw_ne]
theorem kindAll_mu {xs:List V} {vs:List Value} {bl:List Nat} {μ:Nat→Option Loc} (c1:RepL w μ (xs.flatMap V.cells) vs bl):RepL w ((kindAll xs).mu μ) (xs.flatMap V.cells) vs bl:=by
  unfold kindAll
  by_cases q:xs.all V.noRef=true
  · rw [if_pos q];split<;>exact noRef_all c1 q
  · rw [if_neg q];exact c1
theorem kindAll_ok {xs:List V} {vs:List Value} {bl:List Nat} {μ:Nat→Option Loc} {id:Nat} {vw:Bool} (c1:RepL w μ (xs.flatMap V.cells) vs bl) (hv:∀b∈bl,VOK cx ow vw b):KdOK cx ow vw id bl (kindAll xs):=by
  unfold kindAll
  by_cases q:xs.all V.noRef=true
  · rw [if_pos q]
    by_cases q2:xs.all V.noSl=true
    · rw [if_pos q2];exact noSl_all c1 q2
    · rw [if_neg q2];exact hv
  · rw [if_neg q];exact hv
theorem store_box (h:Rel cx s a w μ ow) {K:St→Prop} (T:TypeId) (p x:Operand) (ho:o.op=.store T p x) (hgp:(s.ev p).gd=true) (hgx:(s.ev x).gd=true) (id off:Nat) (hp:(s.ev p).un=.ptr id 0 off)
    (y:V) (k:Kd) (hO:s.O[id]? =some (.box y k)) (hval:(settle s.O.length (s.ev x).un).1.isVal=true) (hlen:(settle s.O.length (s.ev x).un).1.cells.length=P.cellsOf T) (hpos:0 < P.cellsOf T)
    (hoff:off+P.cellsOf T≤y.cells.length) (hpt:k≠.part) (hdeep:k=.deep→(settle s.O.length (s.ev x).un).1.noSl=true∧(settle s.O.length (s.ev x).un).1.noRef=true)
    (hk:K {s with O:=s.O.set id (.box (setCells y off (settle s.O.length (s.ev x).un).1) (if k=.deep then .deep else kindOf (setCells y off (settle s.O.length (s.ev x).un).1)))++(settle s.O.length (s.ev x).un).2}) :
    ∃w' s' μ' ow',(execOp a.eval o).run P w=.ok .skip w'∧Rel cx s' a w' μ' ow'∧s'.n=s.n∧K s':=by
  have hsup:=h.sup;obtain ⟨bp,rp,_⟩:=hsup.evu p hgp;obtain ⟨bx,rx,vx⟩:=hsup.evu x hgx;rw [hp] at rp;obtain ⟨l0,hl,hi,ep⟩:=rp.ptr_inv;generalize hv:(s.ev x).un=v at *;obtain ⟨l,q1,q2,q3⟩:=h.blk id _ hO;rw [hl] at q1;obtain rfl:=Option.some.inj q1;rcases q3 with ⟨_,q3⟩ | ⟨q3,q4,bl,q5,q6,q7⟩
  · grind
  let nid:=s.O.length;let sx:=(settle nid v).1;let pre:=(settle nid v).2;let μ':Nat→Option Loc:=fun j=>if nid≤j then (if j < nid+pre.length then some nilLoc else none) else μ j
  have hm:MLe μ μ':=by
    intro j l e;have:¬nid≤j:=fun hle=>by rw [h.dom j hle] at e;cases e
    grind
  have rsx:Rep w μ' sx (a.eval x) bx:=settle_rep hm rx fun j hj=>by
    grind
  obtain ⟨t1,t2⟩:=rsx.cells hval;have hyl:y.cells.length=l0.sz:=q5.each _ (qle ..);obtain ⟨c,t,vs,g4,g5,g6,g7,g8⟩:=q5.row;have g6':RepL w (k.mu μ) y.cells vs bl:=by grind
  have hvl:vs.length=l0.sz:=by rw [←g6'.length,hyl]
  have hnews:(a.eval x).cells.toList.length=P.cellsOf T:=by rw [←t1.length];omega
  have hn1:l0.n=1:=q2;have hcap:l0.sz≤l0.cap * l0.sz:=Nat.le_mul_of_pos_left _ (by have:=q5.le;omega);have hkle:RepL w μ' y.cells vs bl:=g6'.keep ((k.mu_le μ).trans hm) fun _ _=>rfl
  have hsl:sx.cells.length=P.cellsOf T:=hlen;have hc':(setCells y off sx).cells=y.cells.take off++sx.cells++y.cells.drop (off+sx.cells.length):=setCells_cells (by omega) (by omega);have e3:y.cells=y.cells.take off++((y.cells.drop off).take sx.cells.length++y.cells.drop (off+sx.cells.length)):=by
    grind[List.drop_drop,List.take_append_drop]
  have split:∀{μ0:Nat→Option Loc},RepL w μ0 y.cells vs bl→∃b1 b2 b3,bl=b1++b2++b3∧RepL w μ0 (y.cells.take off) (vs.take off) b1∧RepL w μ0 (y.cells.drop (off+sx.cells.length)) (vs.drop (off+sx.cells.length)) b3:=by
    intro μ0 hr;rw [e3] at hr;obtain ⟨x1,x23,b1,b23,ev1,eb1,r1,r23⟩:=RepL.split _ _ hr;obtain ⟨x2,x3,b2,b3,ev2,eb2,r2,r3⟩:=RepL.split _ _ r23;have hx1:x1.length=off:=by rw [←r1.length,qls];omega
    have hx2:x2.length=sx.cells.length:=by rw [←r2.length,qls,qmh];omega
    have etake:vs.take off=x1:=by grind
    grind
  let news:=(a.eval x).cells.toList;have hnl:news.length=sx.cells.length:=by grind
  have viewne:∀b,VOK cx ow s.vw b→b≠l0.b:=fun b hb e=>by subst e;exact hb.not_root q4
  have oldne:∀b∈bl,b≠l0.b:=by
    intro b hb e;cases k with
    | flat | thin=>have:bl=[]:=q6;grind
    | deep=>have:=q6.2 _ hb;grind
    | shal=>exact viewne _ (q6 _ hb) e
    | mix=>exact viewne _ (q6 _ hb) e
    | part=>grind
  have hx':(setCells y off sx).cells.length=l0.sz:=by rw [hc'];simp only [List.length_append,List.length_take,List.length_drop];omega
  have hlid:id < s.O.length:=by
    grind
  have hrun:(Instr.storeAt T (a.eval p) (a.eval x)).run P w=.ok () (w.setRow l0.b (c.toList.take (l0.off+off)++news++c.toList.drop (l0.off+off+news.length)).toArray):=by
    rw [ep,Nat.zero_mul,Nat.zero_add];exact run_storeVar (P:=P) (off:=l0.off+off) (T:=T) (v:=a.eval x) g4 hpos (by simpa using hnews) (by grind) t2
  have row':∃bl'',RepL w ((if k=.deep then Kd.deep else kindOf (setCells y off sx)).mu μ') (setCells y off sx).cells (vs.take off++news++vs.drop (off+news.length)) bl''∧(∀b∈bl'',b≠l0.b)∧
      KdOK cx ow s.vw id bl'' (if k=.deep then Kd.deep else kindOf (setCells y off sx)):=by
    by_cases hd:k=.deep
    · subst hd
      obtain ⟨n1,n2⟩:=hdeep rfl;have hb0:bx=[]:=noSl_nil rsx n1;have t1':RepL w M0 sx.cells news []:=by
        have:=noRef_all (xs:=[sx]) (vs:=news) (bl:=bx) (μ:=μ') (w:=w) (by simpa using t1) (by grind)
        grind
      obtain ⟨b1,b2,b3,eb,s1,s3⟩:=split (μ0:=M0) g6';refine ⟨b1++[]++b3,?_,?_,?_⟩
      · rw [hc',hnl];exact (s1.append t1').append s3
      · grind
      · rw [if_pos rfl]
        have hsub:List.Sublist (b1++[]++b3) bl:=by
          grind
        exact ⟨hsub.nodup q6.1,fun b hb=>q6.2 b (hsub.subset hb)⟩
    · rw [if_neg hd]
      obtain ⟨b1,b2,b3,eb,s1,s3⟩:=split hkle;have hfull:RepL w μ' ([setCells y off sx].flatMap V.cells) (vs.take off++news++vs.drop (off+news.length)) (b1++bx++b3):=by
        simp only [List.flatMap_cons,List.flatMap_nil,List.append_nil];rw [hc',hnl];exact (s1.append t1).append s3
      have hviews:∀b∈b1++bx++b3,VOK cx ow s.vw b:=by
        have hold:∀b∈bl,VOK cx ow s.vw b:=by
          cases k with
          | flat | thin=>have:bl=[]:=q6;rw [this];simp
          | deep=>grind
          | shal=>exact q6
          | mix=>exact q6
          | part=>grind
        grind
      refine ⟨b1++bx++b3,?_,fun b hb=>viewne b (hviews b hb),kindAll_ok hfull hviews⟩
      grind[kindAll_mu,kindOf]
  obtain ⟨bl'',k1,k2,k3⟩:=row';have hcells:=cells_put (l:=l0) (xs':=[setCells y off sx]) (bl':=bl'') (o:=off) (news:=news) (vs:=vs) (vs':=vs.take off++news++vs.drop (off+news.length)) c t g4 g5 q5.sz g7 g8
    (by grind) (by rw [hnl];omega) (by grind) t2 (by simpa using k1) (by grind) (by omega) k2
  have hlset:({l0 with n:=[setCells y off sx].length}:Loc)=l0:=by rw [List.length_singleton,←hn1]
  rw [hlset] at hcells;refine ⟨_,{s with O:=s.O.set id (.box (setCells y off sx) (if k=.deep then .deep else kindOf (setCells y off sx)))++pre},μ',ow,run_op_u ho rfl hrun,?_,rfl,hk⟩
  refine h.mut (O':=s.O.set id (.box (setCells y off sx) (if k=.deep then .deep else kindOf (setCells y off sx)))++pre) (fun j=>j=id) hm ?_ ?_ ?_ rfl rfl rfl (fun x _=>frozen_setRow _ _ _ x) ?_ ?_ ?_ ?_ ?_
  · intro j hj
    rw [qlm,qln] at hj
    grind
  · simp
  · intro b hb hnt
    refine setRow_other w l0.b b _ fun e=> ?_
    grind
  · simp
  · grind
  · intro j bk e
    by_cases hjl:j < s.O.length
    · rw [qlv (by grind)] at e
      by_cases hjid:j=id
      · subst hjid
        rw [qlj hlid] at e;simp only [Option.some.injEq] at e;subst e;right;exact ⟨l0,hm _ _ hl,hn1,.inr ⟨q3,q4,bl'',hcells,k3,fun _=>by simp⟩⟩
      grind
    · right
      rw [qlr (by grind),qln] at e;have hlt:j - s.O.length < pre.length:=by
        grind
      rw [settle_new e];refine blk_nil ?_
      grind
  · intro b hb
    exact (h.owl b hb).setRow
  grind
theorem store_sound (h:Rel cx s a w μ ow) {K:St→Prop} (T:TypeId) (p x:Operand) (ho:o.op=.store T p x) (hgp:(s.ev p).gd=true) (hgx:(s.ev x).gd=true) (hk:aStore P s T K (s.ev p).un (s.ev x).un) :
    ∃w' s' μ' ow',(execOp a.eval o).run P w=.ok .skip w'∧Rel cx s' a w' μ' ow'∧s'.n=s.n∧K s':=by
  unfold aStore at hk;split at hk
  · rename_i id i off hp
    split at hk
    · rename_i y k hO
      obtain ⟨⟨h1,h2,h3,h4,h5,h6,h7⟩,hk⟩:=hk;subst h4;exact store_box h T p x ho hgp hgx id off hp y k hO h1 h2 h3 h5 h7 h6 hk
    · rename_i xs k hO
      split at hk
      · rename_i v' ids vi ht
        obtain ⟨⟨h1,h2,h3,h4,h5⟩,hk⟩:=hk;split at hk
        · rename_i k' hj
          exact store_arr h T p x ho hgp hgx id i off hp xs k hO v' ids vi ht h1 h2 h3 h4 h5 k' (.inl hj) hk
        · obtain ⟨⟨e1,e2⟩,hk⟩:=hk
          exact store_arr h T p x ho hgp hgx id i off hp xs k hO v' ids vi ht h1 h2 h3 h4 h5 .part (.inr ⟨e1,e2,rfl⟩) hk
      grind
    grind
  grind
end
end Go.Vm
namespace Go.Vm
open Go
def takeElems (s:St):List V→Option (List V×List Nat×Bool)
  | []=>some ([],[],false)
  | x::xs=>match takeV s x,takeElems s xs with
    | some (x',l,b),some (xs',l',b')=>some (x'::xs',l++l',b || b')
    | _,_=>none
def srcOf (s:St):V→Option (List V×List Nat×Bool)
  | .nsl=>some ([],[],false)
  | .sl xs=>some (xs,[],!xs.all V.noSl)
  | .ref id=>match s.row id with
    | some (xs,.flat)=>some (xs,[],false)
    | some (xs,.deep)=>some (xs,[id],false)
    | some (xs,.thin)=>some (xs,[],false)
    | some (xs,.shal)=>some (xs,[],true)
    | some (xs,.mix)=>takeElems s xs
    | some (_,.part)=>none
    | none=>none
  | .sub id lo n=>match s.row id with
    | some (xs,.flat)=>some ((xs.drop lo).take n,[],false)
    | some (xs,.thin)=>some ((xs.drop lo).take n,[],false)
    | some (xs,.shal)=>some ((xs.drop lo).take n,[],true)
    | _=>none
  | _=>none
def destOf (s:St):V→Option (List V×Kd×Option Nat×List V)
  | .nsl=>some ([],.flat,none,[])
  | .ref id=>match s.row id with
    | some (xs,k)=>some (xs,k,some id,xs)
    | none=>none
  | .sub id lo n=>match s.row id with
    | some (xs,k)=>some ((xs.drop lo).take n,k,some id,xs)
    | none=>none
  | _=>none
def V.isSub:V→Bool
  | .sub _ _ _=>true
  | _=>false
def aAppend (P:Program) (s:St) (t:TypeId) (K:V→St→Prop) (d x:V):Prop:=
  match P.underlying t,destOf s d,srcOf s x with
  | some (.slice e),some (xs,k,did,xs0),some (ys,ids,vi)=>
    (0 < P.cellsOf e∧(Program.zeroOf P e).map (fun z=>z.cells.size)=some (P.cellsOf e)∧(∀y∈xs0,y.cells.length=P.cellsOf e)∧(∀y∈ys,y.cells.length=P.cellsOf e)∧ids.Nodup∧
      (∀i,did=some i→i ∉ ids)∧(∀j∈ids,j < s.O.length)∧(d.isSub=true→ys≠[])∧k≠.thin∧xs.length+ys.length≤9223372036854775807∧(xs.length+ys.length) * P.bytesOf e≤140737488355328)∧
    match kdJoin k (!ids.isEmpty) vi with
    | some k'=>K (.ref s.O.length) {s with O:=killAll s.O (did.toList++ids)++[.arr (xs++ys) k']}
    | none=>False
  | _,_,_=>False
section
variable {P:Program} {cx:Cx} {s:St} {a:Act} {w:World} {μ:Nat→Option Loc} {ow:Ow} {o:Oper}
structure Src (cx:Cx) (s:St) (w:World) (ow:Ow) (x:Value) (ys:List V) (ids:List Nat) (vi:Bool) (news:List Value) (bl:List Nat):Prop where
  val:∃q c,x=.slice q ys.length c∧(ys=[]∨∃b off,q=some ⟨b,off,none⟩∧Row w b off news)
  rep:RepL w M0 (ys.flatMap V.cells) news bl
  one:∀v∈news,v.oneCell'=true
  no:vi=false→ids=[]→bl=[]
  view:ids=[]→∀b∈bl,VOK cx ow s.vw b
  own:vi=false→bl.Nodup∧∀b∈bl,∃j∈ids,∃r,ow b=some (r,j)
theorem Row.part {b off:Nat} {vs:List Value} (h:Row w b off vs) (o n:Nat):Row w b (off+o) ((vs.drop o).take n):=by
  intro j x hj;have hjl:j < n:=by
    grind
  rw [List.getElem?_take_of_lt hjl,List.getElem?_drop] at hj;rw [Nat.add_assoc];exact h _ x hj
theorem takeElems_rep (h:Sup cx s a w μ ow):∀{xs xs':List V} {vs:List Value} {bl:List Nat} {ids:List Nat} {vi:Bool},RepL w μ (xs.flatMap V.cells) vs bl→(∀b∈bl,VOK cx ow s.vw b)→takeElems s xs=some (xs',ids,vi)→ids.Nodup→
    ∃bl',xs'.length=xs.length∧RepL w M0 (xs'.flatMap V.cells) vs bl'∧((vi=false→ids=[]→bl'=[])∧(ids=[]→∀b∈bl',VOK cx ow s.vw b))∧(vi=false→bl'.Nodup∧∀b∈bl',∃id∈ids,∃r,ow b=some (r,id))
  | [],xs',vs,bl,ids,vi,hr,_,ht,_=>by
    simp only [List.flatMap_nil] at hr;cases hr;simp [takeElems] at ht;obtain ⟨rfl,rfl,rfl⟩:=ht;exact ⟨[],rfl,.nil,by simp,by simp⟩
  | x :: xs, xs', vs,bl,ids,vi,hr,hb,ht,hnd=>by
    rw [qlz] at hr;obtain ⟨v1,v2,b1,b2,rfl,rfl,r1,r2⟩:=RepL.split _ _ hr;unfold takeElems at ht;cases q1:takeV s x with
    | none=>grind
    | some t1 =>
      obtain ⟨x',l1,w1⟩:=t1;cases q2:takeElems s xs with
      | none=>grind
      | some t2 =>
        obtain ⟨xs2,l2,w2⟩:=t2;rw [q1,q2] at ht;simp only [Option.some.injEq,Prod.mk.injEq] at ht;obtain ⟨rfl,rfl,rfl⟩:=ht;have hn:=List.nodup_append.1 hnd;obtain ⟨d2,g0,g1,g3,g4⟩:=takeElems_rep h r2 (fun b hbb=>hb b (qmk _ hbb)) q2 hn.2.1;have first:∃d1,RepL w M0 x'.cells v1 d1∧((w1=false→l1=[]→d1=[])∧(l1=[]→∀b∈d1,VOK cx ow s.vw b))∧(w1=false→d1.Nodup∧∀b∈d1,∃id∈l1,∃r,ow b=some (r,id)):=by
          have one:takeCell s x=some (x',l1,w1)→x.cells=[x]→∃d1,RepL w M0 x'.cells v1 d1∧((w1=false→l1=[]→d1=[])∧(l1=[]→∀b∈d1,VOK cx ow s.vw b))∧(w1=false→d1.Nodup∧∀b∈d1,∃id∈l1,∃r,ow b=some (r,id)):=by
            intro q e;rw [e] at r1;cases r1 with
            | cons _ y c1 _ ys c2 hc ht'=>
              cases ht';obtain ⟨d1,k1,k2,k3,k4,_⟩:=takeCell_rep h hc (fun b hbb=>hb b (by grind)) q;have e':x'.cells=[x']:=by
                cases x<;>simp [takeCell] at q<;>try (obtain ⟨rfl,rfl,rfl⟩:=q;rfl)
                split at q
                · rename_i xs0 k0 _
                  cases hk:(k0 == Kd.flat || k0 == Kd.deep || k0 == Kd.thin) with
                  | false=>grind
                  | true=>rw [hk,cond_true] at q;simp at q;obtain ⟨rfl,_,_⟩:=q;rfl
                grind
              rw [e'];exact ⟨d1,by simpa using RepL.cons _ _ _ _ _ _ k1 .nil,k3,k4⟩
          cases x with
          | agg cs=>
            simp only [takeV] at q1;cases q:takeCells s cs with
            | none=>grind
            | some r=>
              obtain ⟨cs',l,b⟩:=r;rw [q] at q1;simp only [Option.some.injEq,Prod.mk.injEq] at q1;obtain ⟨rfl,rfl,rfl⟩:=q1;obtain ⟨d1,k1,k2,k3⟩:=takeCells_rep h r1 (fun b hbb=>hb b (qmc _ hbb)) q hn.1;exact ⟨d1,k1,k2,k3⟩
          | _=>exact one q1 rfl
        obtain ⟨d1,e1,e3,e4⟩:=first;refine ⟨d1++d2,by grind,by rw [qlz];exact e1.append g1,⟨fun hv hi=> ?_,fun hi b hbb=> ?_⟩,fun hv=> ?_⟩
        · simp_all
        · grind[List.append_eq_nil_iff]
        · simp only [Bool.or_eq_false_iff] at hv
          obtain ⟨m1,m2⟩:=e4 hv.1;obtain ⟨m3,m4⟩:=g4 hv.2;refine ⟨List.nodup_append.2 ⟨m1,m3,fun x hx y hy e=> ?_⟩,fun b hbb=> ?_⟩
          · grind
          grind
theorem src_rep (h:Sup cx s a w μ ow) {v:V} {x:Value} {bl0:List Nat} {ys:List V} {ids:List Nat} {vi:Bool} (hr:Rep w μ v x bl0) (hb:∀b∈bl0,VOK cx ow s.vw b) (ht:srcOf s v=some (ys,ids,vi)) (hnd:ids.Nodup) :
    ∃news bl,Src cx s w ow x ys ids vi news bl:=by
  cases v<;>simp only [srcOf] at ht<;>try (cases ht;done)
  case nsl=>
    simp at ht;obtain ⟨rfl,rfl,rfl⟩:=ht;cases hr with
    | nsl q=>exact ⟨[],[],⟨⟨q,0,rfl,.inl rfl⟩,.nil,by simp,by simp,by simp,by simp⟩⟩
  case sl xs=>
    simp only [Option.some.injEq,Prod.mk.injEq] at ht;obtain ⟨rfl,rfl,rfl⟩:=ht;cases hr with
    | sl0 q c=>exact ⟨[],[],⟨⟨q,c,rfl,.inl rfl⟩,.nil,by simp,by simp,by simp,by simp⟩⟩
    | sl _ b off c sz vs bl hne hcap hs hz hl hone hr'=>
      have hnil:(!xs.all V.noSl)=false→bl=[]:=fun q=>noSl_all hl (by grind)
      exact ⟨vs,bl,⟨⟨_,c,rfl,.inr ⟨b,off,rfl,hr'⟩⟩,hl,hone,fun q _=>hnil q,fun _ y hy=>hb y (qlg _ hy),fun q=>by grind⟩⟩
  case ref id =>
    cases hrow:s.row id with
    | none=>grind
    | some xk =>
      obtain ⟨xs,k⟩:=xk;rw [hrow] at ht;obtain ⟨l,h1,h2,h3⟩:=h.row hrow;cases hr with
      | ref _ l' _ hl hd=>
        rw [hl] at h1;obtain rfl:=Option.some.inj h1;rcases h3 with ⟨h3,h4⟩ | ⟨h3,h4,bl,h5,h6,h7⟩
        · subst h4
          cases hd with
          | real hreal=>grind
          | nil q _ _=>
            have hys:ys=[]∧(∀j∈ids,True):=by
              cases k<;>first | simp_all[takeElems,trivial] | grind
            obtain ⟨rfl,_⟩:=hys;exact ⟨[],[],⟨⟨q,0,rfl,.inl rfl⟩,.nil,by simp,by simp,by simp,by simp⟩⟩
        · cases hd with
          | nil _ hf' _=>grind
          | real _=>
            obtain ⟨vs,c1,c2,c3⟩:=h5.rowOf;cases k with
            | flat | thin=>
              simp at ht;obtain ⟨rfl,rfl,rfl⟩:=ht;have h6':bl=[]:=h6;subst h6';exact ⟨vs,[],⟨⟨_,_,by rw [h2],.inr ⟨_,_,rfl,c3⟩⟩,c1,c2,by simp,by simp,by simp⟩⟩
            | deep=>
              simp at ht;obtain ⟨rfl,rfl,rfl⟩:=ht;exact ⟨vs,bl,⟨⟨_,_,by rw [h2],.inr ⟨_,_,rfl,c3⟩⟩,c1,c2,by simp,by simp,fun _=>⟨h6.1,fun b hbb=>⟨id,by simp,false,h6.2 b hbb⟩⟩⟩⟩
            | shal=>
              simp at ht;obtain ⟨rfl,rfl,rfl⟩:=ht;exact ⟨vs,bl,⟨⟨_,_,by rw [h2],.inr ⟨_,_,rfl,c3⟩⟩,c1,c2,by simp,fun _=>h6,by simp⟩⟩
            | mix=>
              obtain ⟨bl',g0,g1,g2,g3⟩:=takeElems_rep h (w:=w) (μ:=μ) c1 h6 ht hnd;exact ⟨vs,bl',⟨⟨_,_,by rw [h2,←g0],.inr ⟨_,_,rfl,c3⟩⟩,g1,c2,g2.1,g2.2,g3⟩⟩
            | part=>grind
  case sub id lo n=>
    cases hrow:s.row id with
    | none=>grind
    | some xk=>
      obtain ⟨xs,k⟩:=xk;rw [hrow] at ht;obtain ⟨l,h1,h2,h3⟩:=h.row hrow;have part:∀{bl:List Nat},Cells w M0 l xs bl→lo+n≤xs.length→∃news b',RepL w M0 (((xs.drop lo).take n).flatMap V.cells) news b'∧(∀v∈news,v.oneCell'=true)∧Row w l.b (l.off+lo * l.sz) news∧∀b∈b',b∈bl:=by
        intro bl h5 hle;obtain ⟨vs,c1,c2,c3⟩:=h5.rowOf;obtain ⟨b',p1,p2⟩:=c1.part (lo * l.sz) (n * l.sz);refine ⟨_,b',?_,fun v hv=>c2 v (List.mem_of_mem_drop (ql3 hv)),c3.part (lo * l.sz) (n * l.sz),p2⟩;rw [flatMap_take _ l.sz (fun y hy=>h5.each y (List.mem_of_mem_drop hy)),flatMap_drop _ l.sz h5.each];omega
      cases hr with
      | sub0 _ _ l' q hl hn=>
        have hys:ys=[]:=by
          cases k<;>first | grind | grind
        subst hys;exact ⟨[],[],⟨⟨q,0,rfl,.inl rfl⟩,.nil,by simp,by simp,by simp,by simp⟩⟩
      | sub _ _ _ l' hl hreal hn=>
        rw [hl] at h1;obtain rfl:=Option.some.inj h1;rcases h3 with ⟨h3,_⟩ | ⟨h3,h4,bl,h5,h6,h7⟩
        · grind
        · have hlen:((xs.drop lo).take n).length=n:=by grind
          cases k with
          | flat | thin=>
            simp at ht;obtain ⟨rfl,rfl,rfl⟩:=ht;have h6':bl=[]:=h6;subst h6';obtain ⟨news,b',p1,p2,p3,p4⟩:=part h5 (by omega);have:b'=[]:=List.eq_nil_iff_forall_not_mem.2 fun b hb=>by grind
            subst this;exact ⟨news,[],⟨⟨_,_,by rw [hlen],.inr ⟨_,_,rfl,p3⟩⟩,p1,p2,by simp,by simp,by simp⟩⟩
          | shal=>
            simp at ht;obtain ⟨rfl,rfl,rfl⟩:=ht;obtain ⟨news,b',p1,p2,p3,p4⟩:=part h5 (by omega);exact ⟨news,b',⟨⟨_,_,by rw [hlen],.inr ⟨_,_,rfl,p3⟩⟩,p1,p2,by simp,fun _ b hb=>h6 b (p4 b hb),by simp⟩⟩
          | deep=>grind
          | mix=>grind
          | part=>grind
theorem Src.first {x:Value} {ys:List V} {ids:List Nat} {vi:Bool} {news:List Value} {bl:List Nat} (h:Src cx s w ow x ys ids vi news bl) {sz:Nat} (hz:∀y∈ys,y.cells.length=sz) :
    ∃q c,x=.slice q ys.length c∧news.length=ys.length * sz∧∀w':World,w'.heap=w.heap→(Builtin.firstCells sz ys.length x).run P w'=.ok news.toArray w':=by
  obtain ⟨q,c,rfl,hv⟩:=h.val;have hlen:news.length=ys.length * sz:=by rw [←h.rep.length,flatMap_len ys sz hz]
  refine ⟨q,c,rfl,hlen,fun w' hw=> ?_⟩;have hcell:∀ad,w'.cell? ad=w.cell? ad:=by grind[World.cell?]
  rcases hv with h0 | ⟨b,off,rfl,hrow⟩
  · subst h0
    have hn:news=[]:=qlx.1 (by grind);subst hn;cases q with
    | none=>rfl
    | some ad=>grind[run_firstCells_some]
  · exact run_firstCells_some (P:=P) w' sz ys.length ⟨b,off,none⟩ ys.length c news hlen (by
      intro j v hj;rw [hcell,Addr.add_none];exact hrow j v hj)
theorem run_append_in {t e:TypeId} {ty:TypeId} (ht:P.underlying t=some (.slice e)) (hp:0 < P.cellsOf e) {b off n cap m:Nat} {x:Value} {cur:Array Value} {te:TypeId} {news:List Value}
    (hg:w.heap[b]? =some (.cells cur te (0,0))) (hx:∃q c,x=.slice q m c) (hf:(Builtin.firstCells (P.cellsOf e) m x).run P w=.ok news.toArray w) (h1:∀u∈news,u.oneCell'=true)
    (hroom:n+m≤cap) (hfit:off+n * P.cellsOf e+news.length≤cur.size) :
    (Builtin.append_ #[t,t] ty #[.slice (some ⟨b,off,none⟩) n cap,x]).run P w =
      .ok (.slice (some ⟨b,off,none⟩) (n+m) cap) (w.setRow b (cur.toList.take (off+n * P.cellsOf e)++news++cur.toList.drop (off+n * P.cellsOf e+news.length)).toArray):=by
  obtain ⟨q,c,rfl⟩:=hx;obtain ⟨i,hi,hs⟩:=info_of_cells hp;generalize P.cellsOf e=sz at *;subst hs;have hst:=run_storeCells_at P b (off+n * i.size) te news 0 cur w hg (by omega) h1;simp only [Nat.add_zero] at hst;simp [Builtin.append_,run_underlying ht,sizeOf,typeInfo,hi,Builtin.lenOf,hroom,hf,Addr.add_none,hst]
theorem run_append_same {t e:TypeId} {ty:TypeId} (ht:P.underlying t=some (.slice e)) (hp:0 < P.cellsOf e) {q0:Option Addr} {n cap:Nat} {x:Value} (hx:∃q c,x=.slice q 0 c)
    (hf:(Builtin.firstCells (P.cellsOf e) 0 x).run P w=.ok #[] w) (hroom:n≤cap) :
    (Builtin.append_ #[t,t] ty #[.slice q0 n cap,x]).run P w=.ok (.slice q0 n cap) w:=by
  obtain ⟨q,c,rfl⟩:=hx;obtain ⟨i,hi,hs⟩:=info_of_cells hp;generalize P.cellsOf e=sz at *;subst hs;cases q0<;>simp [Builtin.append_,run_underlying ht,sizeOf,typeInfo,hi,Builtin.lenOf,hroom,hf,storeCells]
theorem run_append_out {t e:TypeId} {ty:TypeId} (ht:P.underlying t=some (.slice e)) (hp:0 < P.cellsOf e) {z:Value} (hz:Program.zeroOf P e=some z) {q0:Option Addr} {n cap m:Nat} {x:Value} {olds news:List Value}
    (hx:∃q c,x=.slice q m c) (hfo:(Builtin.firstCells (P.cellsOf e) n (.slice q0 n cap)).run P w.drew=.ok olds.toArray w.drew) (hf:(Builtin.firstCells (P.cellsOf e) m x).run P w.drew=.ok news.toArray w.drew)
    (hroom:cap < n+m) (h63:n+m≤9223372036854775807) (hb:(n+m) * P.bytesOf e≤140737488355328) :
    ∃ cap',n+m≤cap'∧(Builtin.append_ #[t,t] ty #[.slice q0 n cap,x]).run P w =
      .ok (.slice (some ⟨w.heap.size,0,none⟩) (n+m) cap') (w.drew.alloc (.cells (olds++news++(Builtin.zeroCells z.cells (cap' - (n+m))).toList).toArray e)):=by
  obtain ⟨q,c,rfl⟩:=hx;obtain ⟨i,hi,hs⟩:=info_of_cells hp;have hbb:P.bytesOf e=i.bytes:=by simp [Program.bytesOf,hi]
  rw [hbb] at hb;generalize P.cellsOf e=sz at *;subst hs;have hzero:i.zero=some z:=by grind[Program.zeroOf]
  refine ⟨grownCap w (n+m) cap e,grownCap_ge w (n+m) cap e,?_⟩;have hn:¬(n+m≤cap):=by omega
  have h63':¬(9223372036854775807 < ((n:Int)+(m:Int))):=by omega
  have hfits:=growslice_fits (bytes:=i.bytes) (need:=n+m) (old:=cap) (by omega) hb;have h48':¬(281474976710656 < Builtin.nextslicecap (n+m) cap * i.bytes):=by omega
  simp [Builtin.append_,run_underlying ht,sizeOf,typeInfo,zeroValue,hi,hzero,Builtin.lenOf,hn,h63',h48',Question.forced,hf,hfo,newRow,grownCap]
  congr 2
  simp
def renOw (ow:Ow) (did:Option Nat) (id:Nat):Ow:=fun b=>match ow b with
  | some (r,j)=>if did=some j then some (r,id) else some (r,j)
  | none=>none
theorem append_sound (h:Rel cx s a w μ ow) {K:V→St→Prop} (t:TypeId) (d x:Operand) (c:Call) (ho:o.op=.call c) (hcal:c.callee=.builtin .append) (hargs:c.args=#[d,x]) (hty:c.argTypes=#[t,t])
    (hgd:(s.ev d).gd=true) (hgx:(s.ev x).gd=true) (hk:aAppend P s t K (s.ev d).un (s.ev x).un) :
    ∃v w' val s' μ' ow',(execOp a.eval o).run P w=.ok (.value v) w'∧Rel cx s' a w' μ' ow'∧s'.n=s.n∧(∃bl,Rep w' μ' val v bl∧∀b∈bl,VOK cx ow' s'.vw b)∧K val s':=by
  have hsup:=h.sup;obtain ⟨bd,rd,_⟩:=hsup.evu d hgd;obtain ⟨bx,rx,vx⟩:=hsup.evu x hgx;unfold aAppend at hk;split at hk
  case h_2=>exact hk.elim
  rename_i e xs k did xs0 ys ids vi ht hdest hsrc;obtain ⟨⟨hp,hzl,hxs0,hys,hnd,hdi,hsrcids,hsubne,hkt,h63,hby⟩,hk⟩:=hk;split at hk
  case h_2=>exact hk.elim
  rename_i k' hj;obtain ⟨hk1,hk2⟩:=kdJoin_ne_mix hj;obtain ⟨news,bl',hS⟩:=src_rep hsup rx vx hsrc hnd;obtain ⟨q,cx',ex,hnl,hfirst⟩:=hS.first (P:=P) hys;have hzz:∃z,Program.zeroOf P e=some z∧z.cells.size=P.cellsOf e:=by
    simp_all
  obtain ⟨z,hz,hzs⟩:=hzz;let nid:=s.O.length;have run:∀{v:Value} {w':World},(Builtin.append_ #[t,t] o.type #[a.eval d,a.eval x]).run P w=.ok v w'→(execOp a.eval o).run P w=.ok (.value v) w':=by
    simp_all[execOp,Sem.run_bind,resolve,Sem.run_pure,Result.andThen_ok,invoke,builtin,List.map_toArray]
  let ow1:=renOw ow did nid;have ow1none:∀b,ow b=none→ow1 b=none:=fun b e=>by simp [ow1,renOw,e]
  have ow1ne:∀b,ow1 b≠none→ow b≠none:=fun b hb e=>hb (ow1none b e)
  have ow1keep:∀b r j,ow b=some (r,j)→did≠some j→ow1 b=some (r,j):=fun b r j e hne=>by simp [ow1,renOw,e,hne]
  have ow1did:∀b r j,ow b=some (r,j)→did=some j→ow1 b=some (r,nid):=fun b r j e he=>by simp [ow1,renOw,e,he]
  have ow1false:∀b j,ow b=some (false,j)→∃j',ow1 b=some (false,j'):=fun b j e=>by
    grind
  have v1:∀b,VOK cx ow s.vw b→VOK cx ow1 s.vw b:=fun b hb=>hb.mono2 (ow1none b) fun j e=>.inr (ow1false b j e)
  have hnidn:nid ∉ ids:=fun hm=>Nat.lt_irrefl _ (hsrcids _ hm)
  have hS1:vi=false→bl'.Nodup∧∀b∈bl',∃j∈ids,∃r,ow1 b=some (r,j):=fun hv=>by
    obtain ⟨m1,m2⟩:=hS.own hv
    grind
  let ow':=moveOw ow1 ids nid;have hv':∀b,VOK cx ow1 s.vw b→VOK cx ow' s.vw b:=fun b hb=>hb.mono2 moveOw_none fun j e=>.inr (moveOw_false e)
  have dst : (∀ y ∈xs,y.cells.length=P.cellsOf e)∧∃(q0:Option Addr) (cap:Nat) (olds:List Value) (blo:List Nat),a.eval d=.slice q0 xs.length cap∧RepL w M0 (xs.flatMap V.cells) olds blo∧(∀v∈olds,v.oneCell'=true)∧KdOK cx ow1 s.vw nid blo k∧
      ((cap=0∧xs=[])∨∃(l:Loc) (i lo:Nat) (c:Array Value) (tc:TypeId),did=some i∧i < nid∧l.real=true∧ow l.b=some (true,i)∧0 < l.sz∧l.sz=P.cellsOf e∧(xs=[]→ys≠[])∧w.heap[l.b]? =some (.cells c tc (0,0))∧l.off+l.cap * l.sz≤c.size∧lo+xs.length≤l.cap∧
        q0=some ⟨l.b,l.off+lo * l.sz,none⟩∧cap=l.cap - lo∧(∀j x,olds[j]? =some x→c[l.off+lo * l.sz+j]? =some x)∧∀b∈blo,b≠l.b):=by
    have kd0:∀k:Kd,k.nm=true→KdOK cx ow1 s.vw nid [] k:=by
      intro k hk;cases k with
      | flat | thin=>rfl
      | deep=>exact ⟨by simp,by simp⟩
      | shal=>intro b hb;cases hb
      | mix | part=>exact absurd hk (by decide)
    have kdmove:∀{i:Nat} {bl b':List Nat},did=some i→KdOK cx ow s.vw i bl k→List.Sublist b' bl→KdOK cx ow1 s.vw nid b' k:=by
      intro i bl b' hd hkd hsub;cases k with
      | flat | thin=>have:bl=[]:=hkd;subst this;exact List.sublist_nil.1 hsub
      | deep=>exact ⟨hsub.nodup hkd.1,fun b hb=>ow1did b _ i (hkd.2 b (hsub.subset hb)) hd⟩
      | shal=>exact fun b hb=>v1 b (hkd b (hsub.subset hb))
      | mix | part=>exact absurd hk1 (by decide)
    have notroot:∀{i:Nat} {l:Loc} {bl:List Nat},KdOK cx ow s.vw i bl k→ow l.b=some (true,i)→∀b∈bl,b≠l.b:=by
      intro i l bl hkd hr b hb e0;subst e0;cases k with
      | flat | thin=>have:bl=[]:=hkd;rw [this] at hb;cases hb
      | deep=>have:=hkd.2 _ hb;rw [hr] at this;cases this
      | shal=>exact (hkd _ hb).not_root hr
      | mix | part=>exact absurd hk1 (by decide)
    generalize (s.ev d).un=vd at hdest rd hsubne;cases vd<;>simp only [destOf] at hdest<;>try (cases hdest;done)
    case nsl=>
      simp at hdest;obtain ⟨rfl,rfl,rfl,rfl⟩:=hdest;generalize a.eval d=ad at rd⊢;cases rd with
      | nsl q0=>exact ⟨by simp,q0,0,[],[],rfl,.nil,by simp,kd0 _ rfl,.inl ⟨rfl,rfl⟩⟩
    case ref i =>
      cases hrow:s.row i with
      | none=>grind
      | some xk =>
        obtain ⟨xs1,k0⟩:=xk;rw [hrow] at hdest;simp only [Option.some.injEq,Prod.mk.injEq] at hdest;obtain ⟨rfl,rfl,rfl,rfl⟩:=hdest;have hilt:i < nid:=by
          grind[Nat.lt_or_ge,St.row,List.getElem?_eq_none]
        obtain ⟨l,q1,q2,q3⟩:=hsup.row hrow;generalize a.eval d=ad at rd⊢;cases rd with
        | ref _ l' _ hl hd=>
          rw [hl] at q1;obtain rfl:=Option.some.inj q1;rcases q3 with ⟨q3,q4⟩ | ⟨q3,q4,bl,q5,q6,q7⟩
          · subst q4
            cases hd with
            | real hreal=>rw [hreal] at q3;cases q3
            | nil q0 _ _=>exact ⟨by simp,q0,0,[],[],rfl,.nil,by simp,kd0 _ hk1,.inl ⟨rfl,rfl⟩⟩
          · cases hd with
            | nil _ hf' _=>grind
            | real _=>
              rw [mu_ne_mix hk1] at q5;obtain ⟨c,tc,vs,g4,g5,g6,g7,g8⟩:=q5.row;have hne:=q7 hkt;have hsz:l'.sz=P.cellsOf e:=by
                cases xs1 with
                | nil=>exact absurd rfl hne
                | cons y ys'=>rw [←q5.each y (qle ..),hxs0 y (qle ..)]
              exact ⟨hxs0,_,_,vs,bl,by rw [q2],g6,g7,kdmove rfl q6 (List.Sublist.refl _),.inr ⟨l',i,0,c,tc,rfl,hilt,q3,q4,q5.sz,hsz,fun h0=>absurd h0 hne,g4,g5,by have:=q5.le;omega,by simp,by simp,by simpa using g8,notroot q6 q4⟩⟩
    case sub i lo n=>
      cases hrow:s.row i with
      | none=>grind
      | some xk =>
        obtain ⟨xs1,k0⟩:=xk;rw [hrow] at hdest;simp only [Option.some.injEq,Prod.mk.injEq] at hdest;obtain ⟨rfl,rfl,rfl,rfl⟩:=hdest;have hilt:i < nid:=by
          grind[Nat.lt_or_ge,St.row,List.getElem?_eq_none]
        obtain ⟨l,q1,q2,q3⟩:=hsup.row hrow;generalize a.eval d=ad at rd⊢;cases rd with
        | sub0 _ _ l' q0 hl hn=>exact ⟨by simp,q0,0,[],[],by simp,by rw [List.take_zero];exact .nil,by simp,kd0 _ hk1,.inl ⟨rfl,by simp⟩⟩
        | sub _ _ _ l' hl hreal hn=>
          rw [hl] at q1;obtain rfl:=Option.some.inj q1;rcases q3 with ⟨q3,_⟩ | ⟨q3,q4,bl,q5,q6,q7⟩
          · rw [hreal] at q3;cases q3
          · rw [mu_ne_mix hk1] at q5
            obtain ⟨c,tc,vs,g4,g5,g6,g7,g8⟩:=q5.row;have hlen:((xs1.drop lo).take n).length=n:=by grind
            have hle:=q5.le;have e3:xs1.flatMap V.cells=(xs1.flatMap V.cells).take (lo * l'.sz)++(((xs1.flatMap V.cells).drop (lo * l'.sz)).take (n * l'.sz)++(xs1.flatMap V.cells).drop (lo * l'.sz+n * l'.sz)):=by
              grind[V.cells,List.drop_drop,List.take_append_drop]
            have g6':=g6;rw [e3] at g6';obtain ⟨x1,x23,b1,b23,ev1,eb1,r1,r23⟩:=RepL.split _ _ g6';obtain ⟨x2,x3,b2,b3,ev2,eb2,r2,r3⟩:=RepL.split _ _ r23;have hL:(xs1.flatMap V.cells).length=xs1.length * l'.sz:=flatMap_len xs1 l'.sz q5.each;have hmul:(lo+n) * l'.sz≤xs1.length * l'.sz:=ql8 _ (by omega);rw [Nat.add_mul] at hmul;have hx1:x1.length=lo * l'.sz:=by rw [←r1.length,qls];omega
            have hne:=q7 hkt;have hsz:l'.sz=P.cellsOf e:=by
              cases xs1 with
              | nil=>exact absurd rfl hne
              | cons y ys'=>rw [←q5.each y (qle ..),hxs0 y (qle ..)]
            refine ⟨fun y hy=>hxs0 y (List.mem_of_mem_drop (ql3 hy)),_,_,x2,b2,by rw [hlen],?_,fun v hv=>g7 v (by rw [ev1,ev2];simp [hv]),kdmove rfl q6 (by grind),.inr ⟨l',i,lo,c,tc,rfl,hilt,q3,q4,q5.sz,hsz,fun _=>hsubne rfl,g4,g5,by rw [hlen];omega,rfl,rfl,fun j y hj=> ?_,fun b hb=>notroot q6 q4 b (by rw [eb1,eb2];simp [hb])⟩⟩
            · rw [flatMap_take _ l'.sz (fun y hy=>q5.each y (List.mem_of_mem_drop hy)),flatMap_drop _ l'.sz q5.each]
              exact r2
            · have:vs[lo * l'.sz+j]? =some y:=by
                rw [ev1,qlr (by omega),hx1,Nat.add_sub_cancel_left,ev2,qlv (by
                  grind)]
                exact hj
              grind
  obtain ⟨hxs,q0,cap,olds,blo,ed,ro,o1,kdo,hcase⟩:=dst;have hol:olds.length=xs.length * P.cellsOf e:=by rw [←ro.length,flatMap_len xs _ hxs]
  have rnew:RepL w M0 ((xs++ys).flatMap V.cells) (olds++news) (blo++bl'):=by rw [List.flatMap_append];exact ro.append hS.rep
  have onew:∀v∈olds++news,v.oneCell'=true:=fun v hv=>(qll.1 hv).elim (o1 v) (hS.one v)
  have kdnew:KdOK cx ow' s.vw nid (blo++bl') k':=by
    have:=kd_join (b1:=blo) (b2:=[]) (b3:=[]) (bl':=bl') hj (by simpa using kdo) hnidn hS.no (fun hi b hb=>v1 b (hS.view hi b hb)) hS1;simpa using this
  have hsz':∀y∈xs++ys,y.cells.length=P.cellsOf e:=fun y hy=>(qll.1 hy).elim (hxs y) (hys y)
  let O':=killAll s.O (did.toList++ids)++[.arr (xs++ys) k'];have hOlen:O'.length=nid+1:=by simp [O',killAll_len,nid]
  have ow'none:∀b,ow b=none→ow' b=none:=fun b e0=>moveOw_none (ow1none b e0)
  have ow'ne:∀b,ow' b≠none→ow b≠none:=fun b hb=>ow1ne b (moveOw_ne hb)
  have ow'false:∀b j,ow b=some (false,j)→∃j',ow' b=some (false,j'):=fun b j e0=>by
    obtain ⟨j',q⟩:=ow1false b j e0;exact moveOw_false q
  have blkcase:∀(μ':Nat→Option Loc) (w':World) (owx:Ow),(∀b,b < w.heap.size→owx b=ow' b)→(∀b r j,ow b=some (r,j)→b < w.heap.size)→BlkOK cx w' μ' owx s.vw nid (.arr (xs++ys) k')→
      ∀id bk,O'[id]? =some bk→(s.O[id]? =some bk∧¬did=some id∧∀b r,ow b=some (r,id)→owx b=ow b)∨BlkOK cx w' μ' owx s.vw id bk:=by
    intro μ' w' owx hox hlt hnew id bk e0
    by_cases hid:id < nid
    · rw [qlv (by rw [killAll_len];exact hid)] at e0
      by_cases hd:bk=.dead
      · subst hd;exact .inr trivial
      · obtain ⟨e1,e2⟩:=killAll_get _ _ _ _ e0 hd
        simp only [List.mem_append,Option.mem_toList,not_or] at e2
        grind[moveOw,moveOw_keep]
    · have:id=nid:=by
        grind
      subst this;right;rw [qlr (by rw [killAll_len];omega),killAll_len] at e0
      grind
  have howl:∀b r j,ow b=some (r,j)→b < w.heap.size:=fun b r j e0=>(h.owl b (by rw [e0];simp)).lt
  have hdomnid:μ nid=none:=h.dom nid (qlu _);have mkmu:∀loc:Loc,∃μ':Nat→Option Loc,MLe μ μ'∧μ' nid=some loc∧∀j,nid+1≤j→μ' j=none:=by
    intro loc;refine ⟨fun j=>if j=nid then some loc else μ j,fun j l e0=> ?_,by simp,fun j hj=> ?_⟩
    · grind
    · have:j≠nid:=by omega
      simp only [this,if_false];exact h.dom j (by omega)
  by_cases hroom:xs.length+ys.length≤cap
  · rcases hcase with ⟨hc0,hx0⟩ | ⟨l,i,lo,c,tc,hd,hilt,hreal,hroot,hlsz,hlsz',hne0,g4,g5,hlo,hq0,hcap,g8,hbne⟩
    · -- nothing onto nothing
      subst hx0;have hy0:ys=[]:=qlx.1 (by simp at hroom;omega);subst hy0;obtain ⟨μ',m1,m2,m3⟩:=mkmu nilLoc;have hn0:news=[]:=qlx.1 (by simpa using hnl);subst hn0;have hr:=run_append_same (P:=P) (w:=w) (ty:=o.type) (q0:=q0) (n:=0) (cap:=cap) (x:=a.eval x) ht hp ⟨q,cx',ex⟩ (hfirst w rfl) (qlk _);refine ⟨.slice q0 0 cap,w,.ref nid,{s with O:=O'},μ',ow',run (by rw [ed];exact hr),?_,rfl,⟨[],.ref nid nilLoc _ m2 (by rw [hc0];exact .nil _ rfl rfl),by simp⟩,hk⟩
      refine h.mut (O':=O') (fun j=>did=some j) m1 (fun j hj=>m3 j (by rw [hOlen] at hj;exact hj)) (qlu _) (fun _ _ _=>rfl) rfl rfl rfl (fun _ _=>rfl) (fun b _ e0=>ow'none b e0) (fun b j e0=>.inr (ow'false b j e0))
        (blkcase μ' w ow' (fun _ _=>rfl) howl ⟨nilLoc,m2,rfl,.inl ⟨rfl,rfl⟩⟩) (fun b hb=>h.owl b (ow'ne b hb)) (fun b hb=>.inl (ow'ne b hb))
    · -- in place
      subst hq0;have hroot':ow' l.b=some (true,nid):=by
        grind[moveOw,moveOw_keep]
      have htot:xs++ys≠[]:=by
        grind[List.append_eq_nil_iff]
      let loc:Loc:=⟨l.b,l.off+lo * l.sz,l.sz,(xs++ys).length,l.cap - lo,true⟩;obtain ⟨μ',m1,m2,m3⟩:=mkmu loc;have hcapc:l.off+lo * l.sz+(l.cap - lo) * l.sz≤c.size:=by
        have e1:(l.cap - lo) * l.sz=l.cap * l.sz - lo * l.sz:=Nat.sub_mul ..;have e2:lo * l.sz≤l.cap * l.sz:=ql8 _ (by omega);omega
      have hfit:olds.length+news.length≤(l.cap - lo) * l.sz:=by
        rw [hol,hnl,←Nat.add_mul,hlsz'];exact ql8 _ (by omega)
      have hr:=run_append_in (P:=P) (w:=w) (ty:=o.type) (off:=l.off+lo * l.sz) (n:=xs.length) (cap:=cap) (m:=ys.length) (x:=a.eval x) (news:=news) ht hp g4 ⟨q,cx',ex⟩ (hfirst w rfl) hS.one hroom (by rw [←hol];omega);have hbb:∀b∈blo++bl',b≠l.b:=by
        intro b hb;rcases qll.1 hb with hb | hb
        · exact hbne b hb
        · intro e0
          subst e0;cases hv:vi with
          | false=>
            grind
          | true=>
            have hnil:ids=[]:=by
              subst hv
              grind[kdJoin_cases,nil_of_not]
            exact (hS.view hnil _ hb).not_root hroot
      have hcells:=cells_put (w:=w) (μ':=M0) (l:=⟨l.b,l.off+lo * l.sz,l.sz,xs.length,l.cap - lo,true⟩) (xs':=xs++ys) (bl':=blo++bl') (o:=olds.length) (news:=news) (vs:=olds) (vs':=olds++news) c tc g4 hcapc hlsz o1 g8
        (by grind) hfit (by grind) hS.one rnew
        (by grind) (qlu _) hbb
      rw [hol] at hcells;refine ⟨_,_,.ref nid,{s with O:=O'},μ',ow',run (by rw [ed];exact hr),?_,rfl,⟨[],.ref nid loc _ m2 ?_,by simp⟩,hk⟩
      · refine h.mut (O':=O') (fun j=>did=some j) m1 (fun j hj=>m3 j (by rw [hOlen] at hj;exact hj)) (by simp) (fun b hb hnt=>setRow_other w l.b b _ fun e0=> ?_) rfl rfl rfl (fun x _=>frozen_setRow _ _ _ x) (fun b _ e0=>ow'none b e0) (fun b j e0=>.inr (ow'false b j e0))
          (blkcase μ' _ ow' (fun _ _=>rfl) howl ⟨loc,m2,rfl,.inr ⟨rfl,hroot',blo++bl',by grind[mu_ne_mix],kdnew,fun _=>htot⟩⟩) (fun b hb=>(h.owl b (ow'ne b hb)).setRow) (fun b hb=>.inl (ow'ne b hb))
        subst e0;exact hnt i hroot hd
      · have:=Hd.real (l:=loc) rfl
        grind
  · -- a new block
    have hnil:(Builtin.firstCells (P.cellsOf e) xs.length (.slice q0 xs.length cap)).run P w.drew=.ok olds.toArray w.drew:=by
      rcases hcase with ⟨hc0,hx0⟩ | ⟨l,i,lo,c,tc,hd,hilt,hreal,hroot,hlsz,hlsz',hne0,g4,g5,hlo,hq0,hcap,g8,hbne⟩
      · subst hx0
        have ho0:olds=[]:=qlx.1 (by simpa using hol);subst ho0;cases q0 with
        | none=>rfl
        | some ad=>grind[run_firstCells_some]
      · subst hq0
        exact run_firstCells_some (P:=P) w.drew (P.cellsOf e) xs.length _ xs.length cap olds hol (by
          intro j v hj;rw [Addr.add_none];show w.cell? _=some v
          grind[cell_of_row])
    obtain ⟨cap',hc1,hr⟩:=run_append_out (P:=P) (w:=w) (t:=t) (ty:=o.type) (q0:=q0) (n:=xs.length) (cap:=cap) (m:=ys.length) (x:=a.eval x) ht hp hz ⟨q,cx',ex⟩ hnil (hfirst w.drew rfl) (by omega) h63 hby
    have htot:xs++ys≠[]:=by
      intro h0;rw [List.append_eq_nil_iff] at h0
      grind
    let loc:Loc:=⟨w.heap.size,0,P.cellsOf e,(xs++ys).length,cap',true⟩;obtain ⟨μ',m1,m2,m3⟩:=mkmu loc;have fresh:ow w.heap.size=none:=by
      cases e0:ow w.heap.size with
      | none=>rfl
      | some r=>grind
    let w2:=w.drew.alloc (.cells (olds++news++(Builtin.zeroCells z.cells (cap' - (xs.length+ys.length))).toList).toArray e);have hw2:Ext w w2:=(Ext.drew w).trans (Ext.alloc _ _ _);have hw2s:w2.heap.size=w.heap.size+1:=size_alloc w.drew _;have hcells:Cells w2 M0 loc (xs++ys) (blo++bl'):=by
      refine ⟨by grind,hp,hsz',_,e,olds++news,heap_new w.drew _,?_,rnew.keep (MLe.refl _) fun b hb=>hw2.old b (rnew.lt b hb),onew,fun j y hj=> ?_⟩
      · show 0+cap' * P.cellsOf e≤_
        have hzlen:(Builtin.zeroCells z.cells (cap' - (xs.length+ys.length))).toList.length=(cap' - (xs.length+ys.length)) * P.cellsOf e:=by rw [Array.length_toList,size_zeroCells,hzs]
        rw [List.size_toArray,qlm,qlm,hol,hnl,hzlen,←Nat.add_mul,←Nat.add_mul,Nat.zero_add];exact ql8 _ (by omega)
      grind
    let owx:=bindOw ow' w.heap.size nid;have hox:∀b,b < w.heap.size→owx b=ow' b:=fun b hb=>by simp only [owx,bindOw];rw [if_neg (by omega)]
    have hkdx:KdOK cx owx s.vw nid (blo++bl') k':=kdnew.mono (fun b hb=>hox b (rnew.lt b hb)) (fun q=>q);refine ⟨_,w2,.ref nid,{s with O:=O'},μ',owx,run (by rw [ed];exact hr),?_,rfl,⟨[],.ref nid loc _ m2 ?_,by simp⟩,hk⟩
    · refine h.mut (O':=O') (fun j=>did=some j) m1 (fun j hj=>m3 j (by rw [hOlen] at hj;exact hj)) hw2.size (fun b hb _=>hw2.old b hb) hw2.os hw2.tape hw2.output hw2.ice (fun b hb e0=>(hox b hb).trans (ow'none b e0))
        (fun b j e0=>.inr (by obtain ⟨j',q⟩:=ow'false b j e0;grind))
        (blkcase μ' w2 owx hox howl ⟨loc,m2,rfl,.inr ⟨rfl,by simp [owx,bindOw,loc],blo++bl',by rw [mu_ne_mix hk2];exact hcells,hkdx,fun _=>htot⟩⟩) (fun b hb=> ?_) (fun b hb=> ?_)
      · simp only [owx,bindOw] at hb
        split at hb
        · rename_i q;subst q;exact ⟨_,_,heap_new w.drew _⟩
        · exact (h.owl b (ow'ne b hb)).keep (hw2.old b (h.owl b (ow'ne b hb)).lt)
      grind
    · have:=Hd.real (l:=loc) rfl
      simpa [loc] using this
end
end Go.Vm
namespace Go.Vm
open Go
def aClear (P:Program) (s:St) (t:TypeId) (K:St→Prop) (v:V):Prop:=
  match v with
  | .sub id lo n=>match P.underlying t,s.O[id]? with
    | some (.slice e),some (.arr xs k)=>match Program.zeroOf P e with
      | some z=>((k≠.mix∧k≠.part)∧0 < P.cellsOf e∧(V.ofValue z).isVal=true∧(V.ofValue z).cells.length=P.cellsOf e∧(content (V.ofValue z)).noRef=true∧(∀x∈xs,x.cells.length=P.cellsOf e))∧
          K {s with O:=s.O.set id (.arr (xs.take lo++List.replicate n (content (V.ofValue z))++xs.drop (lo+n)) k)}
      | none=>False
    | _,_=>False
  | _=>False
section
variable {P:Program} {cx:Cx} {s:St} {a:Act} {w:World} {μ:Nat→Option Loc} {ow:Ow} {o:Oper}
theorem KdOK.sub {vw:Bool} {id:Nat} {bl bl':List Nat} {k:Kd} (h:KdOK cx ow vw id bl k) (hs:List.Sublist bl' bl):KdOK cx ow vw id bl' k:=by
  cases k with
  | flat | thin=>have e:bl=[]:=h;grind
  | deep | part=>exact ⟨h.1.sublist hs,fun b hb=>h.2 b (hs.subset hb)⟩
  | shal | mix=>exact fun b hb=>h b (hs.subset hb)
theorem St.O_same {s:St} {id:Nat} {bk:Blk} (h:s.O[id]? =some bk):({s with O:=s.O.set id bk}:St)=s:=by
  have hlt:id < s.O.length:=by
    grind
  have:s.O.set id bk=s.O:=by
    apply List.ext_getElem?
    grind
  rw [this]
theorem clear_sound (h:Rel cx s a w μ ow) {K:St→Prop} (t:TypeId) (x:Operand) (c:Call) (ho:o.op=.call c) (hcal:c.callee=.builtin .clear) (hargs:c.args=#[x]) (hty:c.argTypes=#[t])
    (hgx:(s.ev x).gd=true) (hk:aClear P s t K (s.ev x).un) :
    ∃w' s' μ' ow',(execOp a.eval o).run P w=.ok (.value (.tuple #[])) w'∧Rel cx s' a w' μ' ow'∧s'.n=s.n∧K s':=by
  have hsup:=h.sup;obtain ⟨bx,rx,_⟩:=hsup.evu x hgx;have run:∀{w':World},(Builtin.clear_ #[t] o.type #[a.eval x]).run P w=.ok (.tuple #[]) w'→(execOp a.eval o).run P w=.ok (.value (.tuple #[])) w':=by
    simp_all[execOp,Sem.run_bind,resolve,Sem.run_pure,Result.andThen_ok,invoke,builtin,List.map_toArray]
  generalize (s.ev x).un=vx at *;generalize a.eval x=ax at *;unfold aClear at hk;split at hk
  case h_2=>grind
  rename_i id lo n;split at hk
  case h_2=>grind
  rename_i e xs k ht hO;split at hk
  case h_2=>grind
  rename_i z hz;obtain ⟨⟨hmix0,hp,hv,hlen,hnr,hcs⟩,hK⟩:=hk;have hmix:k.nm=true:=by cases k<;>simp_all [Kd.nm]
  have still:n=0→(Builtin.clear_ #[t] o.type #[ax]).run P w=.ok (.tuple #[]) w→∃w' s' μ' ow',(execOp a.eval o).run P w=.ok (.value (.tuple #[])) w'∧Rel cx s' a w' μ' ow'∧s'.n=s.n∧K s':=by
    intro h0 hr;subst h0;refine ⟨w,s,μ,ow,run hr,h,rfl,?_⟩
    simp_all[List.replicate_zero,List.append_nil,Nat.add_zero,List.take_append_drop,St.O_same]
  cases rx with
  | sub0 _ _ l q hl hn=>
    refine still rfl ?_;cases q<;>simp [Builtin.clear_,run_underlying ht]
  | sub _ _ _ l hl hreal hn=>
    by_cases h0:n=0
    · subst h0
      exact still rfl (by simp [Builtin.clear_,run_underlying ht])
    obtain ⟨l',q1,q2,q3⟩:=h.blk id _ hO;rw [hl] at q1;obtain rfl:=Option.some.inj q1;rcases q3 with ⟨q3,_⟩ | ⟨q3,q4,bl,q5,q6,q7⟩
    · grind
    rw [mu_ne_mix hmix] at q5;have hz':=q5.each;obtain ⟨c0,tc,vs,g4,g5,g6,g7,g8⟩:=q5.row;have hxne:xs≠[]:=by grind
    have hsz:l.sz=P.cellsOf e:=by
      cases xs with
      | nil=>grind
      | cons y ys'=>grind
    have rz:=Rep.ofValue (w:=w) (μ:=μ) z;obtain ⟨y1,y2⟩:=(content_rep rz).cells (content_isVal hv);have hzs:z.cells.size=P.cellsOf e:=by have:=(rz.cells hv).1.length;grind
    have hle:lo+n≤xs.length:=by omega
    have hvl:vs.length=xs.length * l.sz:=by rw [←g6.length,flatMap_len xs l.sz hz']
    let zs:=List.replicate n (content (V.ofValue z));let xs':=xs.take lo++zs++xs.drop (lo+n);let news:=(List.replicate n z.cells.toList).flatten;have hnl:news.length=n * l.sz:=by simp [news,hzs,hsz]
    have hzl:(content (V.ofValue z)).cells.length=l.sz:=by grind[content_cells_len]
    have rnews0:RepL w μ (zs.flatMap V.cells) news []:=by
      grind[List.replicate,content,V.ofValue,V.cells,replicate_cells,RepL.replicate]
    have rnews:=noRef_all rnews0 (by grind);have onews:∀v∈news,v.oneCell'=true:=by
      grind[List.mem_flatten]
    have hmul:(lo+n) * l.sz≤xs.length * l.sz:=ql8 _ hle;rw [Nat.add_mul] at hmul;have hcap:xs.length * l.sz≤l.cap * l.sz:=ql8 _ (by have:=q5.le;omega);have e3:xs.flatMap V.cells=(xs.flatMap V.cells).take (lo * l.sz)++(((xs.flatMap V.cells).drop (lo * l.sz)).take (n * l.sz)++(xs.flatMap V.cells).drop (lo * l.sz+n * l.sz)):=by
      grind[V.cells,List.drop_drop,List.take_append_drop]
    have hL:(xs.flatMap V.cells).length=xs.length * l.sz:=flatMap_len xs l.sz hz';have g6':=g6;rw [e3] at g6';obtain ⟨x1,x23,b1,b23,ev1,eb1,r1,r23⟩:=RepL.split _ _ g6';obtain ⟨x2,x3,b2,b3,ev2,eb2,r2,r3⟩:=RepL.split _ _ r23;have hx1:x1.length=lo * l.sz:=by rw [←r1.length,qls];omega
    have hx2:x2.length=n * l.sz:=by rw [←r2.length,qls,qmh];omega
    have etake:vs.take (lo * l.sz)=x1:=by grind
    have edrop:vs.drop (lo * l.sz+n * l.sz)=x3:=by grind
    have hsub:List.Sublist (b1++([]++b3)) bl:=by
      grind
    have hlen':xs'.length=xs.length:=by simp [xs',zs];omega
    have hflat:xs'.flatMap V.cells=(xs.flatMap V.cells).take (lo * l.sz)++(zs.flatMap V.cells++(xs.flatMap V.cells).drop (lo * l.sz+n * l.sz)):=by
      show (xs.take lo++zs++xs.drop (lo+n)).flatMap V.cells=_;rw [List.flatMap_append,List.flatMap_append,flatMap_take _ l.sz hz',flatMap_drop _ l.sz hz',Nat.add_mul,qlw]
    have hvs':vs.take (lo * l.sz)++news++vs.drop (lo * l.sz+news.length)=x1++(news++x3):=by rw [etake,hnl,edrop,qlw]
    have hcells:=cells_put (w:=w) (μ':=M0) (l:=l) (xs':=xs') (bl':=b1++([]++b3)) (o:=lo * l.sz) (news:=news) (vs:=vs) (vs':=x1++(news++x3)) c0 tc g4 g5 q5.sz g7 g8
      (by rw [hlen'];have:=q5.le;omega) (by omega)
      (by
        intro y hy;rcases qll.1 hy with hy | hy
        · grind
        grind) onews
      (by rw [hflat];exact r1.append (rnews.append r3)) (by grind) (by omega)
      (by
        intro b hb e;subst e;have hb':=hsub.subset hb;cases k with
        | flat | thin=>have:bl=[]:=q6;grind
        | deep=>have:=q6.2 _ hb';grind
        | shal=>exact (q6 _ hb').not_root q4
        | mix | part=>grind)
    have hlset:({l with n:=xs'.length}:Loc)=l:=by rw [hlen',←q2]
    rw [hlset] at hcells;obtain ⟨ie,hi1,hi2⟩:=info_of_cells hp;have hzero:ie.zero=some z:=by grind[Program.zeroOf]
    have hzc:(Builtin.zeroCells z.cells n).toList=news:=madeCells_list z.cells n (by omega);have hst:=run_storeCells_at P l.b (l.off+lo * l.sz) tc news 0 c0 w g4 (by omega) onews;have hrun:(Builtin.clear_ #[t] o.type #[.slice (some ⟨l.b,l.off+lo * l.sz,none⟩) n (l.cap - lo)]).run P w=.ok (.tuple #[]) (w.setRow l.b (c0.toList.take (l.off+lo * l.sz)++news++c0.toList.drop (l.off+lo * l.sz+news.length)).toArray):=by
      rw [Nat.add_zero] at hst;obtain ⟨m,rfl⟩:∃m,n=m+1:=⟨n - 1,by omega⟩;simp [Builtin.clear_,run_underlying ht,zeroValue,typeInfo,hi1,hzero,hzc];rw [hst];simp
    have hlid:id < s.O.length:=by
      grind
    refine ⟨_,{s with O:=s.O.set id (.arr xs' k)},μ,ow,run hrun,?_,rfl,hK⟩
    refine h.mut (O':=s.O.set id (.arr xs' k)) (fun j=>j=id) (MLe.refl μ) ?_ ?_ ?_ rfl rfl rfl (fun x _=>frozen_setRow _ _ _ x) ?_ ?_ ?_ ?_ ?_
    · intro j hj
      rw [qln] at hj;exact h.dom j hj
    · simp
    · intro b hb hnt
      refine setRow_other w l.b b _ fun e=> ?_
      grind
    · simp
    · grind
    · intro j bk e
      by_cases hjid:j=id
      · subst hjid
        rw [qlj hlid] at e;simp only [Option.some.injEq] at e;subst e;right;refine ⟨l,hl,by omega,.inr ⟨q3,q4,_,by grind[mu_ne_mix],q6.sub hsub,fun _ q=>hxne (qlx.1 (by grind))⟩⟩
      grind
    · intro b hb
      exact (h.owl b hb).setRow
    grind
theorem row_nonempty {id:Nat} {xs:List V} {k:Kd} {l:Loc} (h:Sup cx s a w μ ow) (hrow:s.row id=some (xs,k)) (hl:μ id=some l) {x:Value} (hd:Hd l x) (hx:xs≠[]):∃ad n c,x=.slice (some ad) n c:=by
  obtain ⟨l',h1,h2,h3⟩:=h.row hrow;rw [hl] at h1;obtain rfl:=Option.some.inj h1;rcases h3 with ⟨_,q⟩ | ⟨hr,_⟩
  · grind
  · cases hd with
    | real _=>simp
    | nil _ hf _=>grind
theorem nilcmp_sound {K:KV} {nid:Nat} (h:Sup cx s a w μ ow) (op:BinOp) (xt yt:TypeId) (x y:Operand) (ho:o.op=.binOp op xt x y yt) (hx:(s.ev x).gd=true) (hy:isNil y=true) (hk:aNil P s op xt K (s.ev x).un):QV P cx s nid w μ ow o a K:=by
  obtain ⟨bx,rx,_⟩:=h.evu x hx;obtain ⟨⟨e,he⟩,hop,hk⟩:=hk;have hye:a.eval y=.slice none 0 0:=by
    unfold isNil at hy;split at hy
    · rfl
    grind
  have fin:∀(b:Bool) (q:Option Addr) (n c:Nat),a.eval x=.slice q n c→b=q.isNone→K (.bool (bif op == .neq then !b else b)) [] s.vw→QV P cx s nid w μ ow o a K:=by
    intro b q n c hq hb hK;refine QV.pure h (run_bin op xt yt x y ho (by grind) (by grind) (r:=.bool (bif op == .neq then !b else b)) ?_) (.bool _) (by simp) id hK;have he':(Op.equal xt (.slice q n c) (.slice none 0 0)).run P w=.ok q.isNone w:=by
      have key:∀d,(Op.equalIn (d+1) xt (.slice q n c) (.slice none 0 0)).run P w=.ok q.isNone w:=by
        intro d;cases q with
        | none=>simp [Op.equalIn,run_underlying he]
        | some ad=>simp [Op.equalIn,run_underlying he]
      exact key 9999
    rw [hq,hye];rcases hop with rfl | rfl
    · have e1:binOp .eql xt (.slice q n c) (.slice none 0 0)=(do pure (.bool (←Op.equal xt (.slice q n c) (.slice none 0 0)))):=rfl
      rw [e1,Sem.run_bind,he',hb];rfl
    · have e1:binOp .neq xt (.slice q n c) (.slice none 0 0)=(do pure (.bool (!(←Op.equal xt (.slice q n c) (.slice none 0 0))))):=rfl
      simp_all
  generalize (s.ev x).un=vx at *;cases vx<;>simp only at hk
  case sl xs=>
    generalize hax:a.eval x=ax at *;cases rx with
    | sl0 q c=>grind
    | sl _ b off c sz vs bl h0=>grind
  case nsl=>
    generalize hax:a.eval x=ax at *;cases rx with
    | nsl q=>grind
  case ref id=>
    generalize hax:a.eval x=ax at *;cases hrow:s.row id with
    | none=>grind
    | some xk=>
      obtain ⟨xs,k⟩:=xk;rw [hrow] at hk;simp only at hk;cases rx with
      | ref _ l _ hl hd=>
        by_cases hxs:xs=[]
        · cases hd with
          | real hr=>grind
          | nil q _ _=>grind
        · obtain ⟨ad,n,c,rfl⟩:=row_nonempty h hrow hl hd hxs
          grind
  case sub id lo n=>
    generalize hax:a.eval x=ax at *;cases rx with
    | sub _ _ _ l hl hr hn=>grind
    | sub0 _ _ l q hl hn=>grind
def dstRng (s:St):V→Option (Nat×Nat×Nat)
  | .ref id=>match s.row id with
    | some (xs,_)=>some (id,0,xs.length)
    | none=>none
  | .sub id lo n=>some (id,lo,n)
  | _=>none
def aCopy (P:Program) (s:St) (t:TypeId) (K:V→St→Prop) (d x:V):Prop:=
  match dstRng s d,srcOf s x with
  | some (id,lo,n),some (ys,ids,vi)=>match P.underlying t,s.O[id]? with
    | some (.slice e),some (.arr xs k)=>
      (ids=[]∧lo+n≤xs.length∧0 < P.cellsOf e∧(∀x∈xs,x.cells.length=P.cellsOf e)∧(∀y∈ys,y.cells.length=P.cellsOf e)∧kdJoin k false vi=some k)∧
        K (.int .i64 (min ys.length n:Nat)) {s with O:=s.O.set id (.arr (xs.take lo++ys.take (min ys.length n)++xs.drop (lo+min ys.length n)) k)}
    | _,_=>False
  | _,_=>False
theorem copy_sound (h:Rel cx s a w μ ow) {K:V→St→Prop} (t t2:TypeId) (d x:Operand) (c:Call) (ho:o.op=.call c) (hcal:c.callee=.builtin .copy) (hargs:c.args=#[d,x]) (hty:c.argTypes=#[t,t2])
    (hgd:(s.ev d).gd=true) (hgx:(s.ev x).gd=true) (hk:aCopy P s t K (s.ev d).un (s.ev x).un) :
    ∃v w' val s' μ' ow',(execOp a.eval o).run P w=.ok (.value v) w'∧Rel cx s' a w' μ' ow'∧s'.n=s.n∧(∃bl,Rep w' μ' val v bl∧∀b∈bl,VOK cx ow' s'.vw b)∧K val s':=by
  have hsup:=h.sup;obtain ⟨bd,rd,_⟩:=hsup.evu d hgd;obtain ⟨bx,rx,vx⟩:=hsup.evu x hgx;have run:∀{v:Value} {w':World},(Builtin.copy_ #[t,t2] o.type #[a.eval d,a.eval x]).run P w=.ok v w'→(execOp a.eval o).run P w=.ok (.value v) w':=by
    simp_all[execOp,Sem.run_bind,resolve,Sem.run_pure,Result.andThen_ok,invoke,builtin,List.map_toArray]
  unfold aCopy at hk;split at hk
  case h_2=>exact hk.elim
  rename_i id lo n ys ids vi hdst hsrc;split at hk
  case h_2=>exact hk.elim
  rename_i e xs k ht hO;obtain ⟨⟨hids,hle,hp,hcs,hys,hj⟩,hK⟩:=hk;subst hids;obtain ⟨news,bls,hS⟩:=src_rep hsup rx vx hsrc List.nodup_nil;obtain ⟨q,cx',ex,hval⟩:=hS.val;have hlen0:news.length=ys.length * P.cellsOf e:=by rw [←hS.rep.length,flatMap_len ys _ hys]
  obtain ⟨ie,hi1,hi2⟩:=info_of_cells hp;have hread:∀m,m≤ys.length→(Builtin.firstCells (P.cellsOf e) m (a.eval x)).run P w=.ok (news.take (m * P.cellsOf e)).toArray w:=by
    intro m hm;have hml:(news.take (m * P.cellsOf e)).length=m * P.cellsOf e:=by
      simp_all
    rw [ex];rcases hval with h0 | ⟨b,off,rfl,hrow⟩
    · subst h0
      have hm0:m=0:=by grind
      subst hm0;have:news=[]:=qlx.1 (by simpa using hlen0);subst this;simp only [Nat.zero_mul,List.take_zero];cases q with
      | none=>rfl
      | some ad=>grind[run_firstCells_some]
    · refine run_firstCells_some (P:=P) w _ m ⟨b,off,none⟩ _ _ _ hml (fun j v hj=> ?_)
      have hjl:j < m * P.cellsOf e:=by
        grind
      rw [List.getElem?_take_of_lt hjl] at hj;rw [Addr.add_none];exact hrow j v hj
  have hlenx:(Builtin.lenOf (a.eval x)).run P w=.ok ys.length w:=by simp_all[Builtin.lenOf]
  have still:∀(qd:Option Addr),a.eval d=.slice qd 0 0→n=0→∃v w' val s' μ' ow',(execOp a.eval o).run P w=.ok (.value v) w'∧Rel cx s' a w' μ' ow'∧s'.n=s.n∧(∃bl,Rep w' μ' val v bl∧∀b∈bl,VOK cx ow' s'.vw b)∧K val s':=by
    intro qd hd0 h0;subst h0;have h00:=hread 0 (qlk _);rw [Nat.zero_mul,List.take_zero] at h00;have hmin:Nat.min ys.length 0=0:=Nat.min_zero _;have hr:(Builtin.copy_ #[t,t2] o.type #[a.eval d,a.eval x]).run P w=.ok (.int .i64 (0:Nat)) w:=by
      rw [hd0];cases qd with
      | none=>simp_all[Builtin.copy_,run_underlying,run_sizeOf,goInt]
      | some ad=>simp_all[Builtin.copy_,run_underlying,run_sizeOf,goInt,storeCells]
    refine ⟨_,w,.int .i64 (0:Nat),s,μ,ow,run hr,h,rfl,⟨[],.int _ _,by simp⟩,?_⟩
    simp_all[min,Nat.min_zero,List.take_zero,List.append_nil,Nat.add_zero,List.take_append_drop,St.O_same]
  obtain ⟨l',q1,q2,q3⟩:=h.blk id _ hO;have place:(∃qd,a.eval d=.slice qd 0 0∧n=0)∨∃cap,a.eval d=.slice (some ⟨l'.b,l'.off+lo * l'.sz,none⟩) n cap∧l'.real=true:=by
    generalize (s.ev d).un=vd at *;generalize a.eval d=ad at *;cases vd<;>simp only [dstRng] at hdst<;>try (cases hdst;done)
    case ref i=>
      cases hrow:s.row i with
      | none=>grind
      | some xk=>
        obtain ⟨xs1,k1⟩:=xk;rw [hrow] at hdst;simp only [Option.some.injEq,Prod.mk.injEq] at hdst;obtain ⟨rfl,rfl,rfl⟩:=hdst;have hx1:xs1=xs:=by
          grind[St.row,Blk.row,Option.some.injEq,Prod.mk.injEq]
        subst hx1;cases rd with
        | ref _ l2 _ hl hd=>
          rw [hl] at q1;obtain rfl:=Option.some.inj q1;cases hd with
          | real hr=>simp_all
          | nil qd hf h0=>grind
    case sub i lo1 n1=>
      simp only [Option.some.injEq,Prod.mk.injEq] at hdst;obtain ⟨rfl,rfl,rfl⟩:=hdst;cases rd with
      | sub0 _ _ l2 qd hl hn=>simp
      | sub _ _ _ l2 hl hr hn=>
        simp_all
  rcases place with ⟨qd,hd0,hn0⟩ | ⟨cap,hd0,hreal⟩
  · grind
  obtain ⟨hmix,_⟩:=kdJoin_ne_mix hj;rcases q3 with ⟨q3,_⟩ | ⟨q3,q4,bl,q5,q6,q7⟩
  · grind
  rw [mu_ne_mix hmix] at q5;have hz':=q5.each;obtain ⟨c0,tc,vs,g4,g5,g6,g7,g8⟩:=q5.row;obtain ⟨m,hmdef⟩:∃m,m=min ys.length n:=⟨_,rfl⟩;have hmy:m≤ys.length:=by omega
  have hmn:m≤n:=by omega
  rw [←hmdef] at hK
  by_cases hm0:m=0
  · -- nothing is copied
    have h00:=hread 0 (qlk _);rw [Nat.zero_mul,List.take_zero] at h00;have hmin:Nat.min ys.length n=0:=by grind
    have hr:(Builtin.copy_ #[t,t2] o.type #[a.eval d,a.eval x]).run P w=.ok (.int .i64 (0:Nat)) w:=by
      rw [hd0];simp [Builtin.copy_,run_underlying ht,hlenx,run_sizeOf hp,hmin,h00,goInt,storeCells]
    refine ⟨_,w,.int .i64 (0:Nat),s,μ,ow,run hr,h,rfl,⟨[],.int _ _,by simp⟩,?_⟩
    simp_all[List.take_zero,List.append_nil,Nat.add_zero,List.take_append_drop,St.O_same]
  have hxne:xs≠[]:=by grind
  have hsz:l'.sz=P.cellsOf e:=by
    cases xs with
    | nil=>exact absurd rfl hxne
    | cons y ys'=>grind
  have hvl:vs.length=xs.length * l'.sz:=by rw [←g6.length,flatMap_len xs l'.sz hz']
  let zs:=ys.take m;let xs':=xs.take lo++zs++xs.drop (lo+m);let nw:=news.take (m * l'.sz);have hnl:nw.length=m * l'.sz:=by
    grind[Nat.mul_le_mul_right,List.length_take]
  obtain ⟨b2n,rnews0,hb2n⟩:=hS.rep.take (m * l'.sz);have rnews:RepL w M0 (zs.flatMap V.cells) nw b2n:=by
    grind[M0,V.cells,flatMap_take]
  have onews:∀v∈nw,v.oneCell'=true:=fun v hv=>hS.one v (ql3 hv)
  have hle2:lo+m≤xs.length:=by omega
  have hmul:(lo+m) * l'.sz≤xs.length * l'.sz:=ql8 _ hle2;rw [Nat.add_mul] at hmul;have hcap:xs.length * l'.sz≤l'.cap * l'.sz:=ql8 _ (by have:=q5.le;omega);have e3:xs.flatMap V.cells=(xs.flatMap V.cells).take (lo * l'.sz)++(((xs.flatMap V.cells).drop (lo * l'.sz)).take (m * l'.sz)++(xs.flatMap V.cells).drop (lo * l'.sz+m * l'.sz)):=by
    grind[V.cells,List.drop_drop,List.take_append_drop]
  have hL:(xs.flatMap V.cells).length=xs.length * l'.sz:=flatMap_len xs l'.sz hz';have g6':=g6;rw [e3] at g6';obtain ⟨x1,x23,b1,b23,ev1,eb1,r1,r23⟩:=RepL.split _ _ g6';obtain ⟨x2,x3,b2,b3,ev2,eb2,r2,r3⟩:=RepL.split _ _ r23;have hx1:x1.length=lo * l'.sz:=by rw [←r1.length,qls];omega
  have hx2:x2.length=m * l'.sz:=by rw [←r2.length,qls,qmh];omega
  have etake:vs.take (lo * l'.sz)=x1:=by grind
  have edrop:vs.drop (lo * l'.sz+m * l'.sz)=x3:=by grind
  have ebl:bl=b1++b2++b3:=by grind
  have hlen':xs'.length=xs.length:=by simp [xs',zs];omega
  have hflat:xs'.flatMap V.cells=(xs.flatMap V.cells).take (lo * l'.sz)++(zs.flatMap V.cells++(xs.flatMap V.cells).drop (lo * l'.sz+m * l'.sz)):=by
    show (xs.take lo++zs++xs.drop (lo+m)).flatMap V.cells=_;rw [List.flatMap_append,List.flatMap_append,flatMap_take _ l'.sz hz',flatMap_drop _ l'.sz hz',Nat.add_mul,qlw]
  have hvs':vs.take (lo * l'.sz)++nw++vs.drop (lo * l'.sz+nw.length)=x1++(nw++x3):=by rw [etake,hnl,edrop,qlw]
  have v1:vi=false→([]:List Nat)=[]→b2n=[]:=fun hv _=>by
    have:bls=[]:=hS.no hv rfl;exact List.eq_nil_iff_forall_not_mem.2 fun b hb=>by grind
  have v2:([]:List Nat)=[]→∀b∈b2n,VOK cx ow s.vw b:=fun _ b hb=>hS.view rfl b (hb2n b hb)
  have hkd:=kd_join (ow:=ow) (id:=id) (ids:=[]) (vi:=vi) (vw:=s.vw) (b1:=b1) (b2:=b2) (b3:=b3) (bl':=b2n) (k:=k) (k':=k) (by simpa using hj) (by grind) (by simp) v1 v2 (fun hv=>by rw [v1 hv rfl];simp);have how:moveOw ow [] id=ow:=by
    funext b
    unfold moveOw;cases ow b with
    | none=>rfl
    | some r=>rfl
  rw [how] at hkd;have hcells:=cells_put (w:=w) (μ':=M0) (l:=l') (xs':=xs') (bl':=b1++(b2n++b3)) (o:=lo * l'.sz) (news:=nw) (vs:=vs) (vs':=x1++(nw++x3)) c0 tc g4 g5 q5.sz g7 g8
    (by rw [hlen'];have:=q5.le;omega) (by omega)
    (by
      grind) onews
    (by rw [hflat];exact r1.append (rnews.append r3)) (by grind) (by omega)
    (by
      intro b hb e;subst e;have hold:∀b∈bl,b≠l'.b:=by
        intro b hb' e;subst e;cases k with
        | flat | thin=>have:bl=[]:=q6;grind
        | deep=>have:=q6.2 _ hb';grind
        | shal=>exact (q6 _ hb').not_root q4
        | mix | part=>exact absurd hmix (by decide)
      rcases qll.1 hb with hb | hb
      · grind
      · rcases qll.1 hb with hb | hb
        · exact (v2 rfl _ hb).not_root q4
        grind)
  have hlset:({l' with n:=xs'.length}:Loc)=l':=by rw [hlen',←q2]
  rw [hlset] at hcells;have hst:=run_storeCells_at P l'.b (l'.off+lo * l'.sz) tc nw 0 c0 w g4 (by omega) onews;rw [Nat.add_zero] at hst;have hrd:=hread m hmy;rw [←hsz] at hrd;have hmin:Nat.min ys.length n=m:=hmdef.symm;have hsize:(sizeOf e).run P w=.ok l'.sz w:=by grind[run_sizeOf]
  have hrun:(Builtin.copy_ #[t,t2] o.type #[a.eval d,a.eval x]).run P w=.ok (.int .i64 (m:Nat)) (w.setRow l'.b (c0.toList.take (l'.off+lo * l'.sz)++nw++c0.toList.drop (l'.off+lo * l'.sz+nw.length)).toArray):=by
    rw [hd0];simp [Builtin.copy_,run_underlying ht,hlenx,hsize,hmin,hrd,goInt];rw [hst];simp
  have hlid:id < s.O.length:=by
    grind
  refine ⟨_,_,.int .i64 (m:Nat),{s with O:=s.O.set id (.arr xs' k)},μ,ow,run hrun,?_,rfl,⟨[],.int _ _,by simp⟩,hK⟩
  refine h.mut (O':=s.O.set id (.arr xs' k)) (fun j=>j=id) (MLe.refl μ) ?_ ?_ ?_ rfl rfl rfl (fun x _=>frozen_setRow _ _ _ x) ?_ ?_ ?_ ?_ ?_
  · intro j hj
    rw [qln] at hj;exact h.dom j hj
  · simp
  · intro b hb hnt
    refine setRow_other w l'.b b _ fun e=> ?_
    grind
  · exact fun b _ e=>e
  · grind
  · intro j bk e
    by_cases hjid:j=id
    · subst hjid
      rw [qlj hlid] at e;simp only [Option.some.injEq] at e;subst e;right;refine ⟨l',q1,by rw [hlen'];exact q2,.inr ⟨q3,q4,_,by rw [mu_ne_mix hmix];exact hcells,by grind,fun _ q=>hxne (qlx.1 (by rw [←hlen',q];rfl))⟩⟩
    grind
  · intro b hb
    exact (h.owl b hb).setRow
  grind
end
end Go.Vm
namespace Go.Vm
open Go
def aKeep (P:Program) (s:St) (t:TypeId) (K:V→St→Prop) (d x:V):Prop:=
  match P.underlying t,d,srcOf s x with
  | some (.slice e),.ref i,some (ys,[],false)=>match s.row i with
    | some (xs,.flat)=>
      (0 < P.cellsOf e∧(Program.zeroOf P e).map (fun z=>z.cells.size)=some (P.cellsOf e)∧(∀y∈xs,y.cells.length=P.cellsOf e)∧(∀y∈ys,y.cells.length=P.cellsOf e)∧ys≠[]∧
        xs.length+ys.length≤9223372036854775807∧(xs.length+ys.length) * P.bytesOf e≤140737488355328)∧
      K (.ref s.O.length) {s with O:=s.O++[.arr (xs++ys) .flat]}∧(xs≠[]→K (.ref s.O.length) {s with O:=s.O.set i (.hid s.O.length xs.length)++[.arr (xs++ys) .flat]})
    | _=>False
  | _,_,_=>False
section
variable {P:Program} {cx:Cx} {s:St} {a:Act} {w:World} {μ:Nat→Option Loc} {ow:Ow} {o:Oper}
theorem keep_sound (h : Rel cx s a w μ ow) {K:V→St→Prop} (t:TypeId) (d x:Operand) (c:Call) (ho:o.op=.call c) (hcal:c.callee=.builtin .append) (hargs:c.args=#[d,x]) (hty:c.argTypes=#[t,t])
    (hgd:(s.ev d).gd=true) (hgx:(s.ev x).gd=true) (hk:aKeep P s t K (s.ev d).un (s.ev x).un) :
    ∃v w' val s' μ' ow',(execOp a.eval o).run P w=.ok (.value v) w'∧Rel cx s' a w' μ' ow'∧s'.n=s.n∧(∃bl,Rep w' μ' val v bl∧∀b∈bl,VOK cx ow' s'.vw b)∧K val s':=by
  have hsup:=h.sup;obtain ⟨bd,rd,_⟩:=hsup.evu d hgd;obtain ⟨bx,rx,vx⟩:=hsup.evu x hgx;unfold aKeep at hk;split at hk
  case h_2=>exact hk.elim
  rename_i e i ys ht hdest hsrc;split at hk
  case h_2=>exact hk.elim
  rename_i xs hrow;obtain ⟨⟨hp,hzl,hxs,hys,hyne,h63,hby⟩,hK1,hK2⟩:=hk;obtain ⟨news,bl',hS⟩:=src_rep hsup rx vx hsrc List.nodup_nil;obtain ⟨q,cx',ex,hnl,hfirst⟩:=hS.first (P:=P) hys;have hbl':bl'=[]:=hS.no rfl rfl;subst hbl';have hzz:∃z,Program.zeroOf P e=some z∧z.cells.size=P.cellsOf e:=by
    cases hq:Program.zeroOf P e with
    | none=>rw [hq] at hzl;cases hzl
    | some z=>rw [hq] at hzl;exact ⟨z,rfl,by simpa using hzl⟩
  obtain ⟨z,hz,hzs⟩:=hzz;let nid:=s.O.length;have run:∀{v:Value} {w':World},(Builtin.append_ #[t,t] o.type #[a.eval d,a.eval x]).run P w=.ok v w'→(execOp a.eval o).run P w=.ok (.value v) w':=by
    intro v w' hv;unfold execOp;rw [ho];simp only [Sem.run_bind,resolve,hcal,hargs,hty,Sem.run_pure,Result.andThen_ok,invoke,builtin,List.map_toArray,List.map_cons,List.map_nil];rw [hv];rfl
  have hilt:i < nid:=by
    rcases qly i nid with z | z
    · exact z
    · simp [St.row,List.getElem?_eq_none z] at hrow
  obtain ⟨l,q1,q2,q3⟩:=hsup.row hrow;rw [hdest] at rd;have hyp:0 < ys.length:=List.length_pos_iff.2 hyne;have htot:xs++ys≠[]:=fun h0=>hyne (List.append_eq_nil_iff.1 h0).2
  have dst:∃(q0:Option Addr) (cap:Nat) (olds:List Value),a.eval d=.slice q0 xs.length cap∧RepL w M0 (xs.flatMap V.cells) olds []∧(∀v∈olds,v.oneCell'=true)∧
      ((cap=0∧xs=[])∨∃(c:Array Value) (tc:TypeId),l.real=true∧ow l.b=some (true,i)∧0 < l.sz∧l.sz=P.cellsOf e∧xs≠[]∧w.heap[l.b]? =some (.cells c tc (0,0))∧l.off+l.cap * l.sz≤c.size∧xs.length≤l.cap∧
        q0=some ⟨l.b,l.off,none⟩∧cap=l.cap∧(∀j x,olds[j]? =some x→c[l.off+j]? =some x)):=by
    generalize a.eval d=ad at rd⊢;cases rd with
    | ref _ l' _ hl hd=>
      rw [hl] at q1;obtain rfl:=Option.some.inj q1;rcases q3 with ⟨q3,q4⟩ | ⟨q3,q4,bl,q5,q6,q7⟩
      · subst q4
        cases hd with
        | real hreal=>rw [hreal] at q3;cases q3
        | nil q0 _ _=>exact ⟨q0,0,[],rfl,.nil,by simp,.inl ⟨rfl,rfl⟩⟩
      · cases hd with
        | nil _ hf' _=>rw [q3] at hf';cases hf'
        | real _=>
          have hb0:bl=[]:=q6;subst hb0;have q5:Cells w M0 l' xs []:=q5;obtain ⟨c,tc,vs,g4,g5,g6,g7,g8⟩:=q5.row;have hne:=q7 (by decide);have hsz:l'.sz=P.cellsOf e:=by
            cases xs with
            | nil=>exact absurd rfl hne
            | cons y ys'=>rw [←q5.each y (qle ..),hxs y (qle ..)]
          exact ⟨_,_,vs,by rw [q2],g6,g7,.inr ⟨c,tc,q3,q4,q5.sz,hsz,hne,g4,g5,by have:=q5.le;omega,rfl,rfl,g8⟩⟩
  obtain ⟨q0,cap,olds,ed,ro,o1,hcase⟩:=dst;have hol:olds.length=xs.length * P.cellsOf e:=by rw [←ro.length,flatMap_len xs _ hxs]
  have rnew:RepL w M0 ((xs++ys).flatMap V.cells) (olds++news) []:=by rw [List.flatMap_append];exact ro.append hS.rep
  have onew:∀v∈olds++news,v.oneCell'=true:=fun v hv=>(qll.1 hv).elim (o1 v) (hS.one v)
  have hsz':∀y∈xs++ys,y.cells.length=P.cellsOf e:=fun y hy=>(qll.1 hy).elim (hxs y) (hys y)
  have howl:∀b r j,ow b=some (r,j)→b < w.heap.size:=fun b r j e0=>(h.owl b (by rw [e0];simp)).lt
  have hdomnid:μ nid=none:=h.dom nid (qlu _);have mkmu:∀loc:Loc,∃μ':Nat→Option Loc,MLe μ μ'∧μ' nid=some loc∧∀j,nid+1≤j→μ' j=none:=by
    intro loc;refine ⟨fun j=>if j=nid then some loc else μ j,fun j l e0=> ?_,by simp,fun j hj=> ?_⟩
    · have:j≠nid:=fun q=>by rw [q,hdomnid] at e0;cases e0
      simp [this,e0]
    · have:j≠nid:=by omega
      simp only [this,if_false];exact h.dom j (by show s.O.length≤j;have:nid=s.O.length:=rfl;omega)
  by_cases hroom:xs.length+ys.length≤cap
  · rcases hcase with ⟨hc0, hx0⟩ | ⟨c,tc,hreal,hroot,hlsz,hlsz',hne,g4,g5,hlo,hq0,hcap,g8⟩
    · subst hx0;simp at hroom;omega
    · -- in place
      subst hq0;let loc:Loc:=⟨l.b,l.off,l.sz,(xs++ys).length,l.cap,true⟩;obtain ⟨μ',m1,m2,m3⟩:=mkmu loc;have hfit:olds.length+news.length≤l.cap * l.sz:=by
        rw [hol,hnl,←Nat.add_mul,hlsz'];exact ql8 _ (by omega)
      have hr:=run_append_in (P:=P) (w:=w) (ty:=o.type) (off:=l.off) (n:=xs.length) (cap:=cap) (m:=ys.length) (x:=a.eval x) (news:=news) ht hp g4 ⟨q,cx',ex⟩ (hfirst w rfl) hS.one hroom (by rw [←hol];omega);have hcells:=cells_put (w:=w) (μ':=M0) (l:=⟨l.b,l.off,l.sz,xs.length,l.cap,true⟩) (xs':=xs++ys) (bl':=[]) (o:=olds.length) (news:=news) (vs:=olds) (vs':=olds++news) c tc g4 g5 hlsz o1 g8
        (by simp only [List.length_append];show xs.length+ys.length≤l.cap;omega) hfit (by intro y hy;rw [hsz' y hy];exact hlsz'.symm) hS.one rnew
        (by rw [List.take_length,qlt (by omega),ql6,List.take_length]) (qlu _) (by simp)
      rw [hol] at hcells;let ow':Ow:=fun b=>if b=l.b then some (true,nid) else ow b
      have hroot':ow' l.b=some (true,nid):=by simp [ow']
      have hinner:∀b j,ow b=some (false,j)→b≠l.b:=fun b j e0 e1=>by subst e1;rw [hroot] at e0;cases e0
      refine ⟨_,_,.ref nid,{s with O:=s.O.set i (.hid nid xs.length)++[.arr (xs++ys) .flat]},μ',ow',run (by rw [ed];exact hr),?_,rfl,⟨[],.ref nid loc _ m2 ?_,by simp⟩,hK2 hne⟩
      · refine h.mut (fun j =>i=j) m1 (fun j hj=>m3 j (by rw [qlm,qln] at hj;exact hj)) (by simp) (fun b hb hnt=>setRow_other w l.b b _ fun e0=> ?_) rfl rfl rfl (fun x _=>frozen_setRow _ _ _ x)
          (fun b _ e0 => by have:b≠l.b:=fun q=>by rw [q,hroot] at e0;cases e0
                            simp [ow',this,e0])
          (fun b j e0=>.inr ⟨j,by simp [ow',hinner b j e0,e0]⟩) ?_ (fun b hb=> ?_) (fun b hb=> ?_)
        · subst e0;exact hnt i hroot rfl
        · intro id bk e0
          by_cases hid:id < nid
          · rw [qlv (by rw [qln];exact hid),List.getElem?_set] at e0
            by_cases hii:i=id
            · subst hii
              rw [if_pos rfl,if_pos hid] at e0;cases e0;right;exact ⟨l,loc,m1 _ _ q1,m2,q2,List.length_pos_iff.2 hne,by show xs.length≤(xs++ys).length;rw [qlm];omega,hreal,rfl,rfl,rfl,rfl,rfl⟩
            · rw [if_neg hii] at e0
              left;refine ⟨e0,hii,fun b r eb=> ?_⟩;have:b≠l.b:=fun q=>by rw [q,hroot] at eb;cases eb;exact hii rfl
              simp [ow',this]
          · have:id=nid:=by
              rcases qly id (nid+1) with z | z
              · omega
              · rw [qlp (by rw [qlm,qln];exact z)] at e0;cases e0
            subst this;right;rw [qlr (by rw [qln];exact qlu _),qln] at e0;simp only [nid,Nat.sub_self,List.getElem?_cons_zero,Option.some.injEq] at e0;subst e0;exact ⟨loc,m2,rfl,.inr ⟨rfl,hroot',[],hcells,rfl,fun _=>htot⟩⟩
        · by_cases hbl:b=l.b
          · subst hbl;exact (h.owl _ (by rw [hroot];simp)).setRow
          · simp only [ow',hbl,if_false] at hb;exact (h.owl b hb).setRow
        · by_cases hbl:b=l.b
          · subst hbl;left;rw [hroot];simp
          · simp only [ow',hbl,if_false] at hb;exact .inl hb
      · have:=Hd.real (l:=loc) rfl
        rw [hcap];simpa [loc] using this
  · -- a new block
    have hnil:(Builtin.firstCells (P.cellsOf e) xs.length (.slice q0 xs.length cap)).run P w.drew=.ok olds.toArray w.drew:=by
      rcases hcase with ⟨hc0,hx0⟩ | ⟨c,tc,hreal,hroot,hlsz,hlsz',hne,g4,g5,hlo,hq0,hcap,g8⟩
      · subst hx0
        have ho0:olds=[]:=qlx.1 (by simpa using hol);subst ho0;cases q0 with
        | none=>exact run_firstCells_none (P:=P) w.drew _ 0 0 cap
        | some ad=>exact run_firstCells_some (P:=P) w.drew _ 0 ad 0 cap [] (by simp) (by intro j v hj;simp at hj)
      · subst hq0
        exact run_firstCells_some (P:=P) w.drew (P.cellsOf e) xs.length _ xs.length cap olds hol (by
          intro j v hj;rw [Addr.add_none];show w.cell? _=some v;rw [cell_of_row w l.b _ c tc _ g4];exact g8 j v hj)
    obtain ⟨cap',hc1,hr⟩:=run_append_out (P:=P) (w:=w) (t:=t) (ty:=o.type) (q0:=q0) (n:=xs.length) (cap:=cap) (m:=ys.length) (x:=a.eval x) ht hp hz ⟨q,cx',ex⟩ hnil (hfirst w.drew rfl) (by omega) h63 hby
    let loc:Loc:=⟨w.heap.size,0,P.cellsOf e,(xs++ys).length,cap',true⟩;obtain ⟨μ',m1,m2,m3⟩:=mkmu loc;have fresh:ow w.heap.size=none:=by
      cases e0:ow w.heap.size with
      | none=>rfl
      | some r=>have:=(h.owl w.heap.size (by rw [e0];simp)).lt;omega
    let w2:=w.drew.alloc (.cells (olds++news++(Builtin.zeroCells z.cells (cap' - (xs.length+ys.length))).toList).toArray e);have hw2:Ext w w2:=(Ext.drew w).trans (Ext.alloc _ _ _);have hw2s:w2.heap.size=w.heap.size+1:=size_alloc w.drew _;have hcells:Cells w2 M0 loc (xs++ys) []:=by
      refine ⟨by show (xs++ys).length≤cap';rw [qlm];exact hc1,hp,hsz',_,e,olds++news,heap_new w.drew _,?_,rnew.keep (MLe.refl _) (by simp),onew,fun j y hj=> ?_⟩
      · show 0+cap' * P.cellsOf e≤_
        have hzlen:(Builtin.zeroCells z.cells (cap' - (xs.length+ys.length))).toList.length=(cap' - (xs.length+ys.length)) * P.cellsOf e:=by rw [Array.length_toList,size_zeroCells,hzs]
        rw [List.size_toArray,qlm,qlm,hol,hnl,hzlen,←Nat.add_mul,←Nat.add_mul,Nat.zero_add];exact ql8 _ (by omega)
      · show (olds++news++_).toArray[0+j]? =some y
        rw [Nat.zero_add,List.getElem?_toArray,qlv (by
          rcases qly j (olds++news).length with z | z
          · exact z
          · rw [qlp z] at hj;cases hj)]
        exact hj
    let owx:=bindOw ow w.heap.size nid;have hox:∀b,b < w.heap.size→owx b=ow b:=fun b hb=>by simp only [owx,bindOw];rw [if_neg (by omega)]
    refine ⟨_,w2,.ref nid,{s with O:=s.O++[.arr (xs++ys) .flat]},μ',owx,run (by rw [ed];exact hr),?_,rfl,⟨[],.ref nid loc _ m2 ?_,by simp⟩,hK1⟩
    · refine h.mut (fun _=>False) m1 (fun j hj=>m3 j (by rw [qlm] at hj;exact hj)) hw2.size (fun b hb _=>hw2.old b hb) hw2.os hw2.tape hw2.output hw2.ice (fun b hb e0=>(hox b hb).trans e0)
        (fun b j e0=>.inr ⟨j,(hox b (howl b _ j e0)).trans e0⟩) ?_ (fun b hb=> ?_) (fun b hb=> ?_)
      · intro id bk e0
        by_cases hid:id < nid
        · rw [qlv hid] at e0
          exact .inl ⟨e0,fun q=>q,fun b r eb=>hox b (howl b r id eb)⟩
        · have:id=nid:=by
            rcases qly id (nid+1) with z | z
            · omega
            · rw [qlp (by rw [qlm];exact z)] at e0;cases e0
          subst this;right;rw [qlr (qlu _)] at e0;simp only [nid,Nat.sub_self,List.getElem?_cons_zero,Option.some.injEq] at e0;subst e0;exact ⟨loc,m2,rfl,.inr ⟨rfl,by simp [owx,bindOw,loc],[],hcells,rfl,fun _=>htot⟩⟩
      · simp only [owx,bindOw] at hb
        split at hb
        · rename_i q;subst q;exact ⟨_,_,heap_new w.drew _⟩
        · exact (h.owl b hb).keep (hw2.old b (h.owl b hb).lt)
      · simp only [owx,bindOw] at hb
        split at hb
        · right;omega
        · exact .inl hb
    · have:=Hd.real (l:=loc) rfl
      simpa [loc] using this
end
end Go.Vm
