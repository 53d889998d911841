/- The value machine, part 2. -/
import Derived.Test.YtmhaafinhpopmaaGreatUmA
set_option linter.unusedSimpArgs false
set_option linter.unusedVariables false
set_option linter.defProp false
namespace Go.Vm
open Go
theorem Addr.add_none (b off n:Nat):(⟨b,off,none⟩:Addr).add n=⟨b,off+n,none⟩:=by
  grind[Addr.add]
theorem RepL.drop {w:World} {μ:Nat→Option Loc}:∀{cs:List V} {vs:List Value} {bl:List Nat},RepL w μ cs vs bl→∀o:Nat,
    ∃b',RepL w μ (cs.drop o) (vs.drop o) b'∧∀b∈b',b∈bl
  | _,_,_,.nil,o=>⟨[],by simpa using RepL.nil,by simp⟩
  | _,_,_,.cons v x bl vs xs bl' h ht,0=>⟨bl++bl',.cons v x bl vs xs bl' h ht,fun _ h=>h⟩
  | _,_,_,.cons v x bl vs xs bl' h ht,o+1=>
    let ⟨b',h1,h2⟩:=ht.drop o
    ⟨b',h1,fun b hb=>qmk _ (h2 b hb)⟩
theorem RepL.take {w:World} {μ:Nat→Option Loc}:∀{cs:List V} {vs:List Value} {bl:List Nat},RepL w μ cs vs bl→∀n:Nat,
    ∃b',RepL w μ (cs.take n) (vs.take n) b'∧∀b∈b',b∈bl
  | _,_,_,.nil,n=>⟨[],by simpa using RepL.nil,by simp⟩
  | _,_,_,.cons v x bl vs xs bl' h ht,0=>⟨[],.nil,by simp⟩
  | _,_,_,.cons v x bl vs xs bl' h ht,n+1=>
    let ⟨b',h1,h2⟩:=ht.take n
    ⟨bl++b',.cons v x bl _ _ b' h h1,fun b hb=>(qll.1 hb).elim (fun q=>qmc _ q) (fun q=>qmk _ (h2 b q))⟩
theorem RepL.part {w:World} {μ:Nat→Option Loc} {cs:List V} {vs:List Value} {bl:List Nat} (h:RepL w μ cs vs bl) (o n:Nat) :
    ∃b',RepL w μ ((cs.drop o).take n) ((vs.drop o).take n) b'∧∀b∈b',b∈bl:=
  let ⟨b1,h1,k1⟩:=h.drop o;let ⟨b2,h2,k2⟩:=h1.take n
  ⟨b2,h2,fun b hb=>k1 b (k2 b hb)⟩
theorem flatMap_elem:∀(xs:List V) (sz:Nat) (_:∀x∈xs,x.cells.length=sz) (i:Nat),i < xs.length→
    ((xs.flatMap V.cells).drop (i * sz)).take sz=(xs.getD i .any).cells
  | [],_,_,i,hi=>by grind
  | x::xs,sz,hz,0,_=>by
    grind
  | x::xs,sz,hz,i+1,hi=>by
    have hx:=hz x (qle ..);have ih:=flatMap_elem xs sz (fun y hy=>hz y (qlg _ hy)) i (by grind)
    grind[Nat.add_mul,List.drop_drop,List.drop_left]
theorem flatMap_len:∀(xs:List V) (sz:Nat) (_:∀x∈xs,x.cells.length=sz),(xs.flatMap V.cells).length=xs.length * sz
  | [],_,_=>by simp
  | x::xs,sz,hz=>by
    rw [qlz,qlm,hz x (qle ..),flatMap_len xs sz fun y hy=>hz y (qlg _ hy),qmf,Nat.add_mul];omega
theorem take_drop_drop {α:Type} (l:List α) (o n k m:Nat) (h:k+m≤n):(((l.drop o).take n).drop k).take m=(l.drop (o+k)).take m:=by
  grind[List.drop_take,List.drop_drop,Nat.min_eq_left]
section
variable {P:Program} {cx:Cx} {s:St} {nid:Nat} {a:Act} {w:World} {μ:Nat→Option Loc} {ow:Ow} {o:Oper} {K:KV}
theorem info_of_cells {T:TypeId} (h:0 < P.cellsOf T):∃i,P.info? T=some i∧i.size=P.cellsOf T:=by
  unfold Program.cellsOf at *;cases e:P.info? T with
  | none=>grind
  | some i=>simp
theorem run_isAgg {T:TypeId} (h:(P.underlying T).isSome=true):(isAgg T).run P w=.ok (Program.isAggT P T) w:=by
  obtain ⟨d,hd⟩:=qmb.1 h;unfold isAgg;rw [Sem.run_bind,run_underlying hd w];unfold Program.isAggT;rw [hd];cases d<;>rfl
theorem run_sizeOf {T:TypeId} (h:0 < P.cellsOf T):(sizeOf T).run P w=.ok (P.cellsOf T) w:=by
  obtain ⟨i,h1,h2⟩:=info_of_cells h
  simp_all[sizeOf,typeInfo]
theorem load_row {xs:List V} {sz:Nat} {vs:List Value} {bl:List Nat} {b base i off:Nat} {T:TypeId} (hi:i < xs.length) (hz:∀x∈xs,x.cells.length=sz)
    (hl:RepL w μ (xs.flatMap V.cells) vs bl) (h1:∀x∈vs,x.oneCell'=true) (hr:Row w b base vs) (hT:PartOK P T (xs.getD i .any).cells.length off) :
    ∃v b',(Instr.loadAt T (.pointer (some ⟨b,base+(i * sz+off),none⟩))).run P w=.ok v w∧Rep w μ (part P T (xs.getD i .any) off) v b'∧∀y∈b',y∈bl:=by
  obtain ⟨hs,hpos,hle⟩:=hT;have hxlen:(xs.getD i .any).cells.length=sz:=hz _ (by grind);have hcut:((xs.flatMap V.cells).drop (i * sz+off)).take (P.cellsOf T)=((xs.getD i .any).cells.drop off).take (P.cellsOf T):=by
    rw [←flatMap_elem xs sz hz i hi,take_drop_drop _ _ _ _ _ (by omega)]
  obtain ⟨b',hp,hb⟩:=hl.part (i * sz+off) (P.cellsOf T);rw [hcut] at hp;have hlen:((vs.drop (i * sz+off)).take (P.cellsOf T)).length=P.cellsOf T:=by
    rw [←hp.length,qls,qmh];omega
  have hcell:∀j v,((vs.drop (i * sz+off)).take (P.cellsOf T))[j]? =some v→w.cell? ((⟨b,base+(i * sz+off),none⟩:Addr).add j)=some v:=by
    intro j v hj;have hjl:j < P.cellsOf T:=by
      grind
    rw [List.getElem?_take_of_lt hjl,List.getElem?_drop] at hj;rw [Addr.add_none,Nat.add_assoc];exact hr _ v hj
  unfold part;cases hA:Program.isAggT P T with
  | true=>
    refine ⟨.agg ((vs.drop (i * sz+off)).take (P.cellsOf T)).toArray,b',?_,?_,hb⟩
    · have:=run_loadCells_list (P:=P) w ⟨b,base+(i * sz+off),none⟩ _ hcell
      rw [hlen] at this;simp only [Instr.loadAt,Instr.sureAddr,Sem.run_bind,Sem.run_pure,Result.andThen_ok,loadVar,run_isAgg hs,hA,if_true,run_sizeOf hpos,this]
    · refine .agg _ _ _ hp fun x hx=>h1 x ?_
      grind
  | false=>
    have hne:∃v0 rest,(vs.drop (i * sz+off)).take (P.cellsOf T)=v0::rest:=by
      cases e:(vs.drop (i * sz+off)).take (P.cellsOf T) with
      | nil=>grind
      | cons v0 rest=>simp
    obtain ⟨v0,rest,e⟩:=hne;obtain ⟨c0,crest,ec⟩:∃c0 crest,((xs.getD i .any).cells.drop off).take (P.cellsOf T)=c0::crest:=by
      cases e2:((xs.getD i .any).cells.drop off).take (P.cellsOf T) with
      | nil=>rw [e2,e] at hp;cases hp
      | cons c0 crest=>simp
    have hhead:((xs.getD i .any).cells.drop off).headD .any=c0:=by
      cases e3:(xs.getD i .any).cells.drop off with
      | nil=>grind
      | cons q r=>grind
    rw [ec,e] at hp;cases hp with
    | cons _ _ b1 _ _ b2 h ht=>
      refine ⟨v0,b1,?_,by grind,fun y hy=>hb y (qmc _ hy)⟩;have hc:=hcell 0 v0 (by grind);rw [Addr.add_none,Nat.add_zero] at hc
      simp_all[Instr.loadAt,Instr.sureAddr,Sem.run_bind,Sem.run_pure,Result.andThen_ok,loadVar,run_isAgg,Bool.false_eq_true]
theorem noSl_cells:∀{cs:List V} {vs:List Value} {bl:List Nat},RepL w μ cs vs bl→
    (cs.all fun c=>match c with | .sl _ | .pv _ _ _ | .opt _ _ | .tup _ | .agg _ | .fn _ _=>false | _=>true)=true→bl=[]
  | _,_,_,.nil,_=>rfl
  | _,_,_,.cons c x b1 _ xs b2 hc ht,hn=>by
    rw [List.all_cons,qlo] at hn;have h2:=noSl_cells ht hn.2;have h3:b1=[]:=by
      have hn1:=hn.1;cases hc<;>first | rfl | grind
    grind
theorem noSl_nil {v:V} {x:Value} {bl:List Nat} (h:Rep w μ v x bl) (hn:v.noSl=true):bl=[]:=by
  cases v<;>first | (simp [V.noSl] at hn;done) | skip
  case fn f cs=>
    have:cs=[]:=by simpa [V.noSl] using hn
    subst this;cases h with
    | fn _ _ _ _ hl=>cases hl;rfl
  case agg cs=>
    cases h with
    | agg _ _ _ hl h1=>exact noSl_cells hl hn
  all_goals (cases h<;>rfl)
theorem Cells.rowOf {μ:Nat→Option Loc} {l:Loc} {xs:List V} {bl:List Nat} (h:Cells w μ l xs bl):∃vs,RepL w μ (xs.flatMap V.cells) vs bl∧(∀v∈vs,v.oneCell'=true)∧Row w l.b l.off vs:=by
  obtain ⟨_,_,_,c,t,vs,h4,h5,h6,h7,h8⟩:=h;exact ⟨vs,h6,h7,fun j x hj=>by grind[cell_of_row]⟩
theorem Sup.row (h:Sup cx s a w μ ow) {id:Nat} {xs:List V} {k:Kd} (hr:s.row id=some (xs,k)):RowOK cx w μ ow s.vw id xs k:=by
  unfold St.row at hr;cases e:s.O[id]? with
  | none=>grind
  | some bk=>
    have:=h.blk id bk e;cases bk<;>simp [e,Blk.row] at hr
    · obtain ⟨rfl,rfl⟩:=hr;exact this
    · obtain ⟨rfl,rfl⟩:=hr;exact this
theorem load_sound (h:Sup cx s a w μ ow) (T:TypeId) (p:Operand) (ho:o.op=.load T p) (hg:(s.ev p).gd=true) (hk:aLoad P s T true K (s.ev p).un):QV P cx s nid w μ ow o a K:=by
  obtain ⟨bx,rx,hb⟩:=h.evu p hg;generalize (s.ev p).un=vx at *;unfold aLoad at hk;split at hk
  · rename_i id i off
    obtain ⟨l,hl,hi,e⟩:=rx.ptr_inv;cases hrow:s.row id with
    | none=>grind
    | some xk=>
      obtain ⟨xs,k⟩:=xk;rw [hrow] at hk;obtain ⟨hT,hk⟩:=hk;obtain ⟨l',h1,h2,h3⟩:=h.row hrow;rw [hl] at h1;cases h1;rcases h3 with ⟨_,h3⟩ | ⟨_,h4,bl,h5,h6,h7⟩
      · grind
      · obtain ⟨vs,c1,c2,c3⟩:=h5.rowOf
        obtain ⟨v,b',r1,r2,r3⟩:=load_row (P:=P) (T:=T) (off:=off) (i:=i) (by omega) h5.each c1 c2 c3 (hT rfl);refine QV.pure (v:=v) h (run_op_v (by unfold execOp;rw [ho]) (by grind)) (r2.keep (k.mu_le μ) fun _ _=>rfl) ?_ (fun hv=>by grind) hk;intro y hy;have hyb:=r3 y hy;cases k with
        | flat | thin=>have:bl=[]:=h6;grind
        | deep=>
          have hn:(part P T (xs.getD i .any) off).noSl=false:=by
            grind[part,noSl_nil]
          have hown:=h6.2 y hyb;refine ⟨.inr ⟨by grind,id,hown⟩,?_⟩;exact .inr (h.own y (by grind))
        | part=>
          have hn:(part P T (xs.getD i .any) off).noSl=false:=by
            grind[part,noSl_nil]
          have hown:=h6.2 y hyb;refine ⟨.inr ⟨by grind,id,hown⟩,?_⟩;exact .inr (h.own y (by grind))
        | shal=>exact (h6 y hyb).mono rfl (fun hv=>by grind)
        | mix=>exact (h6 y hyb).mono rfl (fun hv=>by grind)
  · rename_i xs i off
    obtain ⟨hT,hk⟩:=hk;obtain ⟨b,o',sz,vs,bl',hi,hs,hz,hl,h1,hr,rfl,e⟩:=rx.pv_inv;obtain ⟨v,b',r1,r2,r3⟩:=load_row (P:=P) (T:=T) (off:=off) hi hz hl h1 hr (hT rfl);exact QV.pure (v:=v) h (run_op_v (by unfold execOp;rw [ho]) (by grind)) (r2.keep (MLe.zero μ) fun _ _=>rfl) (fun y hy=>hb y (qlg _ (r3 y hy))) id hk
  grind
theorem unByte_map:∀{xs:List V} {ns:List Int},unByte xs=some ns→xs=ns.map (V.int .u8)
  | [],ns,h=>by grind[unByte]
  | x ::xs,ns,h=>by
    unfold unByte at h;split at h
    · grind
    · rename_i n l e
      cases e;rw [Option.map_eq_some_iff] at h;obtain ⟨m,h1,h2⟩:=h;subst h2;rw [unByte_map h1];rfl
    grind
theorem rep_bytes {μ:Nat→Option Loc}:∀(ns:List Int) {vs:List Value} {bl:List Nat},RepL w μ ((ns.map (V.int .u8)).flatMap V.cells) vs bl→vs=ns.map (Value.int .u8)
  | [],vs,bl,h=>by cases h;rfl
  | n ::ns,vs,bl,h=>by
    simp only [List.map_cons,List.flatMap_cons,V.cells,List.cons_append,List.nil_append] at h;cases h with
    | cons _ x bl _ xs bl' h1 h2=>
      have:=rep_bytes ns h2;rw [this,h1.int_inv];rfl
theorem convert_sound (h:Sup cx s a w μ ow) (src dst:TypeId) (x:Operand) (ho:o.op=.convert src dst x) (hg:(s.ev x).gd=true) (hs:(P.underlying src).isSome=true)
    (hk : match P.underlying dst,(s.ev x).un with
      | some (.int k),.int _ n=>K (.int k (k.wrap n)) [] s.vw
      | some .string,.ref id=>match (s.row id).bind (fun r=>unByte r.1) with
        | some ns=>(∃e,P.underlying src=some (.slice e)∧P.underlying e=some (.int .u8))∧K (.str (strOf ns)) [] s.vw
        | none=>False
      | _,_=>False):QV P cx s nid w μ ow o a K:=by
  split at hk
  · grind[convertInt_sound]
  · rename_i id hd hx
    obtain ⟨bx,rx,hb⟩:=h.evu x hg;rw [hx] at rx;cases hrow:s.row id with
    | none=>grind
    | some xk =>
      obtain ⟨xs,k⟩:=xk;rw [hrow,Option.bind_some] at hk;cases hn:unByte xs with
      | none=>grind
      | some ns =>
        simp only [hn] at hk;obtain ⟨⟨e,hsrc,he⟩,hk⟩:=hk;obtain ⟨l',h1,h2,h3⟩:=h.row hrow;have hxs:=unByte_map hn;have hrun:(convert src dst (a.eval x)).run P w=.ok (.string (strOf ns)) w:=by
          generalize a.eval x=vx at rx⊢;cases rx with
          | ref _ l _ hl hd'=>
            rw [hl] at h1;cases h1;cases hd' with
            | real hreal=>
              rcases h3 with ⟨q,_⟩ | ⟨_,_,bl,h5,_⟩
              · grind
              · obtain ⟨vs,c1,c2,c3⟩:=h5.rowOf
                rw [hxs] at c1;have hvs:=rep_bytes ns c1;subst hvs;rw [run_convert_bytes_string w src dst e _ _ _ hsrc he hd];refine run_bytesToString w _ _ _ ns ?_;have hl2:l'.n=(ns.map (Value.int .u8)).length:=by grind
                rw [hl2];exact run_loadCells_list w _ _ (fun j v hj=>by rw [Addr.add_none];exact c3 j v hj)
            | nil ad _ h0=>
              have hz:ns=[]:=by
                grind
              subst hz;rw [run_convert_bytes_string w src dst e _ _ _ hsrc he hd];cases ad with
              | none=>rfl
              | some ad=>rfl
        exact QV.pure (v:=.string (strOf ns)) h (run_op_v (by unfold execOp;rw [ho]) hrun) (.str _) (by simp) (fun h=>h) hk
  grind
theorem sizeOf_pos {T:TypeId} {xs:List V} {sz i:Nat} (hz:∀x∈xs,x.cells.length=sz) (hi:i < xs.length) (hc:∀x∈xs,x.cells.length=P.cellsOf T):sz=P.cellsOf T:=by
  have hm:xs.getD i .any∈xs:=by grind
  grind
theorem run_indexAt {t e:TypeId} {ad:Addr} {n c:Nat} {k:IntKind} {i:Int} (ht:P.underlying t=some (.slice e)) (h0:0≤i) (h1:i < n) (hp:0 < P.cellsOf e) :
    (Instr.indexAt t (.slice (some ad) n c) (.int k i)).run P w=.ok (.pointer (some (ad.add (i.toNat * P.cellsOf e)))) w:=by
  simp_all[Program.elem,run_indexAt_slice,if_pos,run_sizeOf]
theorem run_indexArr {t e:TypeId} {ad:Addr} {len:Nat} {k:IntKind} {i:Int} (ht:P.underlying t=some (.array len e)) (h0:0≤i) (h1:i < len) (hp:0 < P.cellsOf e) :
    (Instr.indexAt t (.pointer (some ad)) (.int k i)).run P w=.ok (.pointer (some (ad.add (i.toNat * P.cellsOf e)))) w:=by
  simp only [Instr.indexAt,asIntOf,Sem.run_bind,Sem.run_pure,Result.andThen_ok,run_underlying ht,Instr.sureAddr]
  simp_all[run_sizeOf,run_underlying]
theorem indexAddr_sound (h:Sup cx s a w μ ow) (t:TypeId) (x y:Operand) (ho:o.op=.indexAddr t x y) (hg:(s.ev x).gd=true∧(s.ev y).gd=true)
    (hk:aIndexAddr P s t true K (s.ev x).un (s.ev y).un):QV P cx s nid w μ ow o a K:=by
  obtain ⟨bx,rx,hb⟩:=h.evu x hg.1;obtain ⟨_,ry,_⟩:=h.evu y hg.2;generalize (s.ev x).un=vx at *;generalize (s.ev y).un=vy at *;generalize hax:a.eval x=ax at *;generalize hay:a.eval y=ay at *;have fin:∀{ad:Addr} {val:V} {bl:List Nat},(Instr.indexAt t ax ay).run P w=.ok (.pointer (some ad)) w→Rep w μ val (.pointer (some ad)) bl→(∀b∈bl,VOK cx ow s.vw b)→K val [] s.vw→QV P cx s nid w μ ow o a K:=
    fun h1 h2 h3 h4=>QV.pure h (run_op_v (by unfold execOp;rw [ho]) (by grind)) h2 h3 id h4
  unfold aIndexAddr at hk;split at hk
  · rename_i xs k i
    obtain ⟨⟨e,ht,hc⟩,hi,hk⟩:=hk;obtain ⟨h0,h1⟩:=hi rfl;have hy:=ry.int_inv;subst hy;have hi':i.toNat < xs.length:=by omega
    cases rx with
    | sl0=>grind
    | sl _ b off c sz vs bl hne hcap hs hz hl hone hr=>
      have es:sz=P.cellsOf e:=sizeOf_pos hz hi' hc;have hrun:=run_indexAt (P:=P) (w:=w) (ad:=⟨b,off,none⟩) (c:=c) (k:=k) ht h0 h1 (by omega);rw [Addr.add_none,←es] at hrun;exact fin hrun (by have:=Rep.pv (w:=w) (μ:=μ) xs i.toNat 0 b off sz vs bl hi' hs hz hl hone hr;omega) hb hk
  · rename_i id k i
    cases hrow:s.row id with
    | none=>grind
    | some xk=>
      obtain ⟨xs,kd⟩:=xk;rw [hrow] at hk;obtain ⟨⟨e,ht,hc⟩,hi,hk⟩:=hk;obtain ⟨h0,h1⟩:=hi rfl;have hy:=ry.int_inv;subst hy;have hi':i.toNat < xs.length:=by omega
      obtain ⟨l',q1,q2,q3⟩:=h.row hrow;cases rx with
      | ref _ l _ hl hd=>
        rw [hl] at q1;cases q1;rcases q3 with ⟨_,q3⟩ | ⟨q3,q4,bl,q5,q6,q7⟩
        · grind
        · cases hd with
          | nil _ hf _=>omega
          | real _=>
            have es:l'.sz=P.cellsOf e:=sizeOf_pos q5.each hi' hc;have hrun:=run_indexAt (P:=P) (w:=w) (ad:=⟨l'.b,l'.off,none⟩) (n:=l'.n) (c:=l'.cap) (k:=k) ht h0 (by omega) (by have:=q5.sz;omega);rw [Addr.add_none,←es] at hrun;exact fin hrun (by have:=Rep.ptr (w:=w) (μ:=μ) id i.toNat 0 l' hl (by omega);omega) (by simp) hk
  · rename_i id lo n k i
    cases hrow:s.row id with
    | none=>grind
    | some xk=>
      obtain ⟨xs,kd⟩:=xk;rw [hrow] at hk;obtain ⟨⟨e,ht,hc⟩,hi,hk⟩:=hk;obtain ⟨h0,h1⟩:=hi rfl;have hy:=ry.int_inv;subst hy;obtain ⟨l',q1,q2,q3⟩:=h.row hrow;cases rx with
      | sub0=>omega
      | sub _ _ _ l hl hreal hn=>
        rw [hl] at q1;cases q1;have hi':lo+i.toNat < xs.length:=by omega
        rcases q3 with ⟨_,q3⟩ | ⟨q3,q4,bl,q5,q6,q7⟩
        · grind
        · have es:l'.sz=P.cellsOf e:=sizeOf_pos q5.each hi' hc
          have hrun:=run_indexAt (P:=P) (w:=w) (ad:=⟨l'.b,l'.off+lo * l'.sz,none⟩) (n:=n) (c:=l'.cap - lo) (k:=k) ht h0 h1 (by have:=q5.sz;omega);rw [Addr.add_none,←es] at hrun;refine fin hrun ?_ (bl:=[]) (by simp) hk;have:=Rep.ptr (w:=w) (μ:=μ) id (lo+i.toNat) 0 l' hl (by omega)
          grind
  · rename_i id j off k i
    split at hk
    · rename_i len e ht
      obtain ⟨hp,hi,hk⟩:=hk;obtain ⟨h0,h1⟩:=hi rfl;have hy:=ry.int_inv;subst hy;obtain ⟨l,hl,hi',ep⟩:=rx.ptr_inv;subst ep;have hrun:=run_indexArr (P:=P) (w:=w) (ad:=⟨l.b,l.off+(j * l.sz+off),none⟩) (k:=k) ht h0 h1 hp;rw [Addr.add_none] at hrun;refine fin hrun ?_ (bl:=[]) (by simp) hk;have:=Rep.ptr (w:=w) (μ:=μ) id j (off+i.toNat * P.cellsOf e) l hl hi'
      grind
    grind
  · rename_i xs j off k i
    split at hk
    · rename_i len e ht
      obtain ⟨hp,hi,hk⟩:=hk;obtain ⟨h0,h1⟩:=hi rfl;have hy:=ry.int_inv;subst hy;obtain ⟨b,o',sz,vs,bl',hi',hs,hz,hl,h1',hr,ebl,ep⟩:=rx.pv_inv;subst ep;have hrun:=run_indexArr (P:=P) (w:=w) (ad:=⟨b,o'+(j * sz+off),none⟩) (k:=k) ht h0 h1 hp;rw [Addr.add_none] at hrun;refine fin hrun ?_ hb hk;have:=Rep.pv (w:=w) (μ:=μ) xs j (off+i.toNat * P.cellsOf e) b o' sz vs bl' hi' hs hz hl h1' hr
      grind
    grind
  grind
theorem fieldAddr_sound (h:Sup cx s a w μ ow) (t:TypeId) (x:Operand) (f:Nat) (ho:o.op=.fieldAddr t x f) (hg:(s.ev x).gd=true) (hk:aFieldAddr P t f s.vw K (s.ev x).un):QV P cx s nid w μ ow o a K:=by
  obtain ⟨bx,rx,hb⟩:=h.evu x hg;generalize (s.ev x).un=vx at *;generalize hax:a.eval x=ax at *;unfold aFieldAddr at hk;split at hk
  · rename_i fs hu
    split at hk
    · rename_i fd hf
      obtain ⟨hp,hk⟩:=hk;have hz:¬P.cellsOf fd.type=0:=by omega
      have run:∀(b off:Nat),(Instr.fieldAt t (.pointer (some ⟨b,off,none⟩)) f).run P w=.ok (.pointer (some ⟨b,off+fd.offset,none⟩)) w:=by
        intro b off;simp only [Instr.fieldAt,Sem.run_bind,run_underlying hu,Result.andThen_ok,hf,Instr.sureAddr,Sem.run_pure,fieldPlace,run_sizeOf hp,hz,if_false,Addr.add_none]
      split at hk
      · rename_i id i off
        obtain ⟨l,hl,hi,e⟩:=rx.ptr_inv;subst e;refine QV.pure h (run_op_v (by unfold execOp;rw [ho]) (by rw [hax];exact run _ _)) (bl:=[]) ?_ (by simp) (fun q=>q) hk;have:=Rep.ptr (w:=w) (μ:=μ) id i (off+fd.offset) l hl hi
        grind
      · rename_i xs i off
        cases rx with
        | pv _ _ _ b o' sz vs bl hi hs hz' hl h1 hr=>
          refine QV.pure h (run_op_v (by unfold execOp;rw [ho]) (by rw [hax];exact run _ _)) (bl:=b::bl) ?_ hb id hk;have:=Rep.pv (w:=w) (μ:=μ) xs i (off+fd.offset) b o' sz vs bl hi hs hz' hl h1 hr
          grind
      grind
    grind
  grind
theorem run_part {T:TypeId} {cs:Array Value} {off:Nat} {v0:Value} (hs:(P.underlying T).isSome=true) (hp:0 < P.cellsOf T) (h0:Program.isAggT P T=false→cs[off]? =some v0) :
    (Go.part T cs off).run P w=.ok (if Program.isAggT P T=true then .agg (cs.extract off (off+P.cellsOf T)) else v0) w:=by
  unfold Go.part;rw [Sem.run_bind,run_isAgg hs];cases hA:Program.isAggT P T with
  | true=>simp_all[Result.andThen_ok,if_true,Sem.run_bind,run_sizeOf,Sem.run_pure]
  | false=>simp_all
theorem field_sound (h:Sup cx s a w μ ow) (t:TypeId) (x:Operand) (f:Nat) (ho:o.op=.field t x f) (hg:(s.ev x).gd=true) (hk:aField P t f true s.vw K (s.ev x).un):QV P cx s nid w μ ow o a K:=by
  obtain ⟨bx,rx,hb⟩:=h.evu x hg;generalize (s.ev x).un=vx at *;generalize hax:a.eval x=ax at *;unfold aField at hk;split at hk
  · rename_i cs
    split at hk
    · rename_i fs hu
      split at hk
      · rename_i fd hf
        obtain ⟨hT,hk⟩:=hk;obtain ⟨hs,hp,hle⟩:=hT rfl;cases rx with
        | agg _ vs _ hl h1=>
          obtain ⟨b',r1,r2⟩:=hl.part fd.offset (P.cellsOf fd.type);have hlen:=hl.length;cases hA:Program.isAggT P fd.type with
          | true=>
            refine QV.pure (v:=.agg ((vs.drop fd.offset).take (P.cellsOf fd.type)).toArray) (bl:=b') h (run_op_v (by unfold execOp;rw [ho]) ?_) ?_ (fun y hy=>hb y (r2 y hy)) id hk
            · rw [hax]
              simp only [Instr.field,Sem.run_bind,run_underlying hu,Result.andThen_ok,hf,asAgg,Sem.run_pure];rw [run_part (v0:=.nilFunc) hs hp (by grind),if_pos hA];simp
            · unfold part;rw [hA,cond_true]
              exact .agg _ _ _ r1 fun y hy=>h1 y (List.mem_of_mem_drop (ql3 hy))
          | false=>
            have hlt:fd.offset < vs.length:=by omega
            obtain ⟨v,b2,g1,g2,g3⟩:=hl.get fd.offset (cs.getD fd.offset .any) (by grind);refine QV.pure (v:=v) (bl:=b2) h (run_op_v (by unfold execOp;rw [ho]) ?_) ?_ (fun y hy=>hb y (g3 y hy)) id hk
            · simp_all[Instr.field,Sem.run_bind,run_underlying,Result.andThen_ok,asAgg,Sem.run_pure,run_part,if_neg]
            · unfold part;rw [hA,cond_false]
              have:((V.agg cs).cells.drop fd.offset).headD .any=cs.getD fd.offset .any:=by
                show (cs.drop fd.offset).headD .any=_;simp
              grind
      grind
    grind
  grind
theorem len_sound (h:Sup cx s a w μ ow) (x:Operand) (t:TypeId) (c:Call) (ho:o.op=.call c) (hcal:c.callee=.builtin .len) (hargs:c.args=#[x]) (hty:c.argTypes=#[t])
    (ht:lenOK (P.underlying t) (s.ev x).un)
    (hg:(s.ev x).gd=true) (hk:aLen s s.vw K (s.ev x).un):QV P cx s nid w μ ow o a K:=by
  obtain ⟨bx,rx,hb⟩:=h.evu x hg;have run:∀{v:Value},(Builtin.len_ #[t] o.type #[a.eval x]).run P w=.ok v w→(execOp a.eval o).run P w=.ok (.value v) w:=by
    simp_all[execOp,Sem.run_bind,resolve,Sem.run_pure,Result.andThen_ok,invoke,builtin,List.map_toArray]
  generalize (s.ev x).un=vx at *;generalize hax:a.eval x=ax at *;have slice:∀{e:TypeId} (q:Option Addr) (n c:Nat),P.underlying t=some (.slice e)→(Builtin.len_ #[t] o.type #[.slice q n c]).run P w=.ok (.int .i64 n) w:=by
    intro e q n c he;have h0:P.elem t=e:=by simp [Program.elem,he]
    exact run_len_slice w t o.type q n c (by grind)
  unfold aLen at hk;split at hk
  · rename_i xs
    cases hu:P.underlying t with
    | none=>simp [hu,lenOK] at ht
    | some d=>
      cases d<;>simp only [hu,lenOK] at ht<;>try exact ht.elim
      cases rx with
      | sl0 q c=>exact QV.pure h (run (slice q 0 c hu)) (by simpa using Rep.int .i64 0) (by simp) id hk
      | sl _ b off c sz vs bl hne hcap hs hz hl hone hr=>exact QV.pure h (run (slice _ _ c hu)) (.int _ _) (by simp) id hk
  · cases hu:P.underlying t with
    | none=>simp [hu,lenOK] at ht
    | some d=>
      cases d<;>simp only [hu,lenOK] at ht<;>try exact ht.elim
      cases rx with
      | nsl q=>exact QV.pure h (run (slice q 0 0 hu)) (by simpa using Rep.int .i64 0) (by simp) id hk
  · rename_i b
    have:=rx.str_inv;subst this;cases hu:P.underlying t with
    | none=>simp [hu,lenOK] at ht
    | some d=>
      cases d<;>simp only [hu,lenOK] at ht<;>try exact ht.elim
      exact QV.pure h (run (by simp [Builtin.len_,run_underlying hu,goInt])) (.int _ _) (by simp) id hk
  · rename_i id
    cases hrow:s.row id with
    | none=>grind
    | some xk=>
      obtain ⟨xs,kd⟩:=xk;rw [hrow] at hk;obtain ⟨l',q1,q2,q3⟩:=h.row hrow;cases hu:P.underlying t with
      | none=>simp [hu,lenOK] at ht
      | some d=>
        cases d<;>simp only [hu,lenOK] at ht<;>try exact ht.elim
        cases rx with
        | ref _ l _ hl hd=>
          rw [hl] at q1;cases q1;cases hd with
          | real _=>exact QV.pure h (run (slice _ _ _ hu)) (by rw [q2];exact .int _ _) (by simp) (fun q=>q) hk
          | nil q hf h0=>
            refine QV.pure (bl:=[]) h (run (slice q 0 0 hu)) ?_ (fun _ hb=>by grind) (fun q=>q) hk;have:xs.length=0:=by omega
            rw [this];exact .int _ _
  · rename_i lo n
    cases hu:P.underlying t with
    | none=>simp [hu,lenOK] at ht
    | some d=>
      cases d<;>simp only [hu,lenOK] at ht<;>try exact ht.elim
      cases rx with
      | sub0 _ _ l q hl hn=>exact QV.pure h (run (slice q 0 0 hu)) (.int _ _) (by simp) id hk
      | sub _ _ _ l hl hreal hn=>exact QV.pure h (run (slice _ _ _ hu)) (.int _ _) (by simp) id hk
  grind
theorem index_sound (h:Sup cx s a w μ ow) (t:TypeId) (x y:Operand) (ho:o.op=.index t x y) (hg:(s.ev x).gd=true∧(s.ev y).gd=true)
    (hk:aIndex P s t true K (s.ev x).un (s.ev y).un):QV P cx s nid w μ ow o a K:=by
  obtain ⟨bx,rx,hb⟩:=h.evu x hg.1;obtain ⟨_,ry,_⟩:=h.evu y hg.2;generalize (s.ev x).un=vx at *;generalize (s.ev y).un=vy at *;unfold aIndex at hk;split at hk
  · rename_i b k i
    obtain ⟨ht,hi,hk⟩:=hk;obtain ⟨h0,h1⟩:=hi rfl;have e1:=rx.str_inv;have e2:=ry.int_inv;refine QV.pure (v:=.int .u8 (byteAt b i.toNat)) h (run_op_v (by unfold execOp;rw [ho]) ?_) (.int _ _) (by simp) id hk;rw [e1,e2];have hlt:i.toNat < b.size:=by omega
    have hlt':i.toNat < b.data.size:=hlt;have hget:b[i.toNat]? =some (b.data.toList.getD i.toNat 0):=by
      have h3:b.data.toList[i.toNat]? =some b.data[i.toNat]:=by simp
      rw [getElem?_pos b i.toNat hlt,qld,h3];rfl
    simp_all[Instr.index,Sem.run_bind,run_underlying,asIntOf,Sem.run_pure,Result.andThen_ok,if_true,byteAt]
  · rename_i cs k i
    split at hk
    · rename_i len e ht
      obtain ⟨⟨he1,he2,he3⟩,hi,hk⟩:=hk;obtain ⟨h0,h1,h2⟩:=hi rfl;have e2:=ry.int_inv;generalize hax:a.eval x=ax at *;cases rx with
      | agg _ vs _ hl h1'=>
        have hlen:=hl.length;obtain ⟨v,b2,g1,g2,g3⟩:=hl.get i.toNat (cs.getD i.toNat .any) (by grind);refine QV.pure (v:=v) (bl:=b2) h (run_op_v (by unfold execOp;rw [ho]) ?_) g2 (fun y hy=>hb y (g3 y hy)) id hk;rw [hax,e2];simp only [Instr.index,Sem.run_bind,run_underlying ht,asIntOf,Sem.run_pure,Result.andThen_ok,run_sizeOf (show 0 < P.cellsOf e by omega)];rw [if_pos ⟨h0,h1⟩,Sem.run_bind,run_sizeOf (show 0 < P.cellsOf e by omega),Result.andThen_ok,he2,Nat.mul_one,run_part (v0:=v) he1 (by omega) (fun _=>by grind),if_neg (by grind)]
    grind
  grind
end
end Go.Vm
namespace Go.Vm
open Go
theorem foldl_seg (off:Nat):∀(l:List Value) (k:Nat) (cs:Array Value),off+k+l.length≤cs.size→
    ((l.zipIdx k).foldl (fun (cs:Array Value) (p:Value×Nat)=>cs.setIfInBounds (off+p.2) p.1) cs).toList=cs.toList.take (off+k)++l++cs.toList.drop (off+k+l.length)
  | [],k,cs,_=>by simp
  | x ::l,k,cs,h=>by
    simp only [List.length_cons] at h;rw [List.zipIdx_cons,List.foldl_cons,foldl_seg off l (k+1) _ (by grind)];have hlt:off+k < cs.toList.length:=by grind
    have e1:(cs.setIfInBounds (off+k) x).toList=cs.toList.set (off+k) x:=by simp
    rw [e1];have e2:(cs.toList.set (off+k) x).take (off+(k+1))=cs.toList.take (off+k)++[x]:=by
      rw [show off+(k+1)=off+k+1 from rfl,List.take_succ_eq_append_getElem (by grind),List.take_set_of_le (qlu _)];simp
    have e3:(cs.toList.set (off+k) x).drop (off+(k+1)+l.length)=cs.toList.drop (off+k+(x::l).length):=by
      rw [List.drop_set_of_lt (by omega)]
      grind
    grind
theorem seg (cs:Array Value) (off:Nat) (vs:Array Value) (h:off+vs.size≤cs.size) :
    (vs.zipIdx.foldl (init:=cs) fun cs (c,j)=>cs.setIfInBounds (off+j) c).toList=cs.toList.take off++vs.toList++cs.toList.drop (off+vs.size):=by
  have:=foldl_seg off vs.toList 0 cs (by omega);rw [Nat.add_zero] at this
  grind[Array.toList_zipIdx]
theorem fill_lit (size:Nat):∀(xs:List Value) (k:Nat) (cells:Array Value),(∀x∈xs,x.cells.size=size)→(k+xs.length) * size=cells.size→
    Instr.fill (fun i=>some (i * size,size)) cells ((List.range' k xs.length).zip xs)=some (cells.toList.take (k * size)++xs.flatMap fun x=>x.cells.toList).toArray
  | [],k,cells,_,h=>by
    simp only [List.length_nil,Nat.add_zero] at h
    simp_all[List.length_nil,List.range'_zero,List.zip_nil_left,Instr.fill,List.flatMap_nil,List.append_nil,Array.ext',List.take_of_length_le]
  | x ::xs,k,cells,hx,h=>by
    have hs:=hx x (qle ..);simp only [List.length_cons] at h;have hle:k * size+x.cells.size≤cells.size:=by grind
    have hsz:(k+1+xs.length) * size=cells.size:=by grind
    have hsg:=seg cells (k * size) x.cells hle;have hlen:(x.cells.zipIdx.foldl (init:=cells) fun cs (c,j)=>cs.setIfInBounds (k * size+j) c).size=cells.size:=by
      grind[Array.length_toList]
    have ih:=fill_lit size xs (k+1) _ (fun y hy=>hx y (qlg _ hy)) (hsz.trans hlen.symm);rw [qmf,List.range'_succ,List.zip_cons_cons];unfold Instr.fill;have c1:(x.cells.size≠size || k * size+x.cells.size > cells.size)=false:=by grind
    simp only [c1,Bool.false_eq_true,if_false];rw [ih,hsg]
    congr 2
    rw [qlz,←qlw]
    congr 1
    have hl:(cells.toList.take (k * size)++x.cells.toList).length=(k+1) * size:=by
      grind
    grind
section
variable {P:Program} {cx:Cx} {s:St} {nid:Nat} {a:Act} {w:World} {μ:Nat→Option Loc} {ow:Ow} {o:Oper} {K:KV}
theorem Rep.cells {x:V} {v:Value} {bl:List Nat} (h:Rep w μ x v bl) (hv:x.isVal=true):RepL w μ x.cells v.cells.toList bl∧∀c∈v.cells.toList,c.oneCell'=true:=by
  have one:∀{x:V} {v:Value} {bl:List Nat},Rep w μ x v bl→x.cells=[x]→v.cells=#[v]→v.oneCell'=true→RepL w μ x.cells v.cells.toList bl∧∀c∈v.cells.toList,c.oneCell'=true:=by
    intro x v bl h e1 e2 e3;rw [e1,e2];refine ⟨by simpa using RepL.cons _ _ _ _ _ _ h .nil,fun c hc=> ?_⟩
    grind
  cases x with
  | any=>simp [V.isVal] at hv
  | opt=>simp [V.isVal] at hv
  | tup=>simp [V.isVal] at hv
  | agg cs=>
    cases h with
    | agg _ vs _ hl h1=>exact ⟨hl,h1⟩
  | ref id=>
    cases h with
    | ref _ l _ hl hd=>cases hd<;>exact one (.ref id l _ hl (by first | exact .real ‹_› | exact .nil _ ‹_› ‹_›)) rfl rfl rfl
  | _=>exact one h rfl (by cases h<;>rfl) (by cases h<;>rfl)
theorem contentL_rep:∀{cs:List V} {vs:List Value} {bl:List Nat},RepL w μ cs vs bl→RepL w μ (contentL cs) vs bl
  | _,_,_,.nil=>.nil
  | c::cs,_,_,.cons _ x b1 _ xs b2 h ht=>by
    have ih:=contentL_rep ht;unfold contentL at *;simp only [List.map_cons];cases c<;>try exact .cons _ _ _ _ _ _ h ih
    cases h with
    | nsl q=>exact .cons _ _ _ _ _ _ (.sl0 q 0) ih
theorem content_rep {x:V} {v:Value} {bl:List Nat} (h:Rep w μ x v bl):Rep w μ (content x) v bl:=by
  cases x<;>try exact h
  · cases h with
    | nsl q=>exact .sl0 q 0
  · cases h with
    | agg _ vs _ hl h1=>exact .agg _ _ _ (contentL_rep hl) h1
theorem content_isVal {x:V} (h:x.isVal=true):(content x).isVal=true:=by cases x<;>first | exact h | rfl
theorem settle_isVal {x:V}:(settle nid x).1.isVal=x.isVal:=by cases x<;>rfl
def bindOw (ow:Ow) (b id:Nat):Ow:=fun x=>if x=b then some (true,id) else ow x
theorem heap_new (w:World) (ob:Obj):(w.alloc ob).heap[w.heap.size]? =some ob:=by
  show (w.heap.push ob)[w.heap.size]? =_;simp
theorem size_alloc (w:World) (ob:Obj):(w.alloc ob).heap.size=w.heap.size+1:=by
  simp
theorem cells_new {μ':Nat→Option Loc} {xs:List V} {vs:List Value} {bl:List Nat} {sz:Nat} (hne:xs≠[]) (hm:MLe μ μ') (e:TypeId) (hl:RepL w μ (xs.flatMap V.cells) vs bl)
    (h1:∀v∈vs,v.oneCell'=true) (hz:∀x∈xs,x.cells.length=sz) (hs:0 < sz) :
    Cells (w.alloc (.cells vs.toArray e)) μ' ⟨w.heap.size,0,sz,xs.length,xs.length,true⟩ xs bl:=by
  refine ⟨qlu _,hs,hz,vs.toArray,e,vs,heap_new w _,?_,?_,h1,?_⟩
  · have:=flatMap_len xs sz hz
    have h2:=hl.length
    grind
  · exact hl.keep hm fun b hb=>(Ext.alloc w _ _).old b (hl.lt b hb)
  simp
theorem noRef_rep {x:V} {v:Value} {bl:List Nat} (h:Rep w μ x v bl) (hn:x.noRef=true) (ha:∀cs,x≠.agg cs):Rep w M0 x v bl:=by
  cases x<;>first | (simp [V.noRef] at hn;done) | (exact absurd rfl (ha _)) | skip
  case fn f cs=>
    have:cs=[]:=by simpa [V.noRef] using hn
    subst this;cases h with
    | fn _ _ _ _ hl=>cases hl;exact .fn f [] [] [] .nil
  all_goals (cases h<;>(constructor<;>assumption))
theorem noRef_cells:∀{cs:List V} {vs:List Value} {bl:List Nat},RepL w μ cs vs bl→
    (cs.all fun c=>match c with | .ref _ | .sub _ _ _ | .ptr _ _ _ | .opt _ _ | .tup _ | .agg _ | .fn _ _=>false | _=>true)=true→RepL w M0 cs vs bl
  | _,_,_,.nil,_=>.nil
  | _,_,_,.cons c x b1 _ xs b2 hc ht,hn=>by
    rw [List.all_cons,qlo] at hn;refine .cons _ _ _ _ _ _ ?_ (noRef_cells ht hn.2);have hn1:=hn.1;refine noRef_rep hc ?_ ?_
    · cases c<;>first | rfl | grind
    grind
theorem noRef_all:∀{xs:List V} {vs:List Value} {bl:List Nat},RepL w μ (xs.flatMap V.cells) vs bl→xs.all V.noRef=true→RepL w M0 (xs.flatMap V.cells) vs bl
  | [],_,_,h,_=>by cases h;exact .nil
  | x ::xs,_,_,h,hn=>by
    rw [List.all_cons,qlo] at hn;rw [qlz] at h⊢;obtain ⟨x1,x2,b1,b2,rfl,rfl,h1,h2⟩:=RepL.split _ _ h;refine RepL.append ?_ (noRef_all h2 hn.2);have hx:=hn.1;cases x with
    | agg cs=>exact noRef_cells h1 hx
    | _=>
      cases h1 with
      | cons _ _ _ _ _ _ hc ht=>cases ht;exact .cons _ _ _ _ _ _ (noRef_rep hc hx (by simp)) .nil
theorem box_gives (h:Sup cx s a w μ ow) (T:TypeId) {x:V} {v:Value} {bl:List Nat} (hr:Rep w μ x v bl) (hb:∀b∈bl,VOK cx ow s.vw b)
    (hv:x.isVal=true) (hpos:0 < (settle nid x).1.cells.length) :
    Gives cx s nid w μ ow (.pointer (some ⟨w.heap.size,0,none⟩)) (w.alloc (.cells v.cells T)) (.ptr (nid+(settle nid x).2.length) 0 0)
      ((settle nid x).2++[.box (settle nid x).1 (kindOf (settle nid x).1)]) s.vw:=by
  have fresh:ow w.heap.size=none:=by
    cases e:ow w.heap.size with
    | none=>rfl
    | some q=>have:=(h.owl w.heap.size (by grind)).lt;omega
  let sx:=(settle nid x).1;let pre:=(settle nid x).2;let loc:Loc:=⟨w.heap.size,0,sx.cells.length,1,1,true⟩;refine ⟨Ext.alloc w _ _,id,List.replicate pre.length nilLoc++[loc],bindOw ow w.heap.size (nid+pre.length),by grind,?_,?_,?_,fun μ' hm hl=> ?_⟩
  · intro b hb'
    unfold bindOw;rw [if_neg]
    grind
  · intro b hb'
    unfold bindOw
    grind
  · intro b hb'
    unfold bindOw at hb';split at hb'
    · rename_i q;subst q;exact ⟨_,_,heap_new w _⟩
    · exact (h.owl b hb').keep ((Ext.alloc w _ _).old b (h.owl b hb').lt)
  · have hl':∀j,j < pre.length→μ' (nid+j)=some nilLoc:=fun j hj=>hl j nilLoc (by
      grind)
    have hlast:μ' (nid+pre.length)=some loc:=hl pre.length loc (by
      simp)
    have hsx:=settle_rep hm hr hl';refine ⟨⟨[],?_,by simp⟩,fun j bk e=> ?_⟩
    · have:=Rep.ptr (w:=w.alloc (.cells v.cells T)) (μ:=μ') (nid+pre.length) 0 0 loc hlast Nat.one_pos
      grind
    · rcases qly j pre.length with hj | hj
      · grind[List.getElem?_append_left,settle_new,blk_nil]
      · rw [qlr hj] at e
        have hj0:j - pre.length=0:=by
          grind
        have hjj:j=pre.length:=by omega
        rw [hj0] at e;simp only [List.getElem?_cons_zero,Option.some.injEq] at e;subst e;subst hjj;obtain ⟨c1,c2⟩:=hsx.cells (settle_isVal.trans hv);have c1':RepL w μ' ([sx].flatMap V.cells) v.cells.toList bl:=by grind
        have hk1:RepL w ((kindOf sx).mu μ') ([sx].flatMap V.cells) v.cells.toList bl:=by
          unfold kindOf kindAll
          by_cases q:[sx].all V.noRef=true
          · rw [if_pos q];split<;>exact noRef_all c1' q
          · rw [if_neg q];exact c1'
        have hcells:=cells_new (μ:=(kindOf sx).mu μ') (μ':=(kindOf sx).mu μ') (xs:=[sx]) (vs:=v.cells.toList) (sz:=sx.cells.length) (by simp) (MLe.refl _) T hk1 c2 (by simp) hpos;simp only [Array.toArray_toList,List.length_singleton] at hcells;refine ⟨loc,hlast,rfl,.inr ⟨rfl,by simp [bindOw,loc],bl,hcells,?_⟩⟩;have views:∀b∈bl,VOK cx (bindOw ow w.heap.size (nid+pre.length)) s.vw b:=by
          intro b hbb;refine (hb b hbb).mono ?_ id;have:=hr.lt b hbb;unfold bindOw
          grind
        refine ⟨?_,fun _=>by simp⟩;show KdOK cx _ s.vw _ bl (kindAll [sx]);unfold kindAll
        by_cases q:[sx].all V.noRef=true
        · rw [if_pos q]
          by_cases q2:[sx].all V.noSl=true
          · rw [if_pos q2]
            exact noSl_nil hsx (by grind)
          · rw [if_neg q2];exact views
        · rw [if_neg q];exact views
theorem box_sound (h:Sup cx s a w μ ow) (T:TypeId) (x:Operand) (ho:o.op=.box T x) (hg:(s.ev x).gd=true) (hv:(settle nid (s.ev x).un).1.isVal=true∧0 < (settle nid (s.ev x).un).1.cells.length)
    (hk:K (.ptr (nid+(settle nid (s.ev x).un).2.length) 0 0) ((settle nid (s.ev x).un).2++[.box (settle nid (s.ev x).un).1 (kindOf (settle nid (s.ev x).un).1)]) s.vw):QV P cx s nid w μ ow o a K:=by
  obtain ⟨bl,hr,hb⟩:=h.evu x hg;exact ⟨_,_,_,_,_,run_op_v (by unfold execOp;rw [ho]) rfl,box_gives h T hr hb (settle_isVal.symm.trans hv.1) hv.2,hk⟩
theorem alloc_sound (h:Sup cx s a w μ ow) (T:TypeId) (ho:o.op=.alloc T) (z:Value) (hz:Program.zeroOf P T=some z)
    (hv:(settle nid (V.ofValue z)).1.isVal=true) (hp:0 < (settle nid (V.ofValue z)).1.cells.length)
    (hk:K (.ptr (nid+(settle nid (V.ofValue z)).2.length) 0 0) ((settle nid (V.ofValue z)).2++[.box (settle nid (V.ofValue z)).1 (kindOf (settle nid (V.ofValue z)).1)]) s.vw):QV P cx s nid w μ ow o a K:=by
  have hr:=Rep.ofValue (w:=w) (μ:=μ) z;refine ⟨_,_,_,_,_,run_op_v (by unfold execOp;rw [ho]) ?_,box_gives h T hr (by simp) (settle_isVal.symm.trans hv) hp,hk⟩;unfold Program.zeroOf at hz;cases e:P.info? T with
  | none=>grind
  | some i=>
    simp_all[Instr.alloc,zeroValue,typeInfo,newVar,newRow]
theorem kindAll_thin (xs:List V):kindAll xs≠.thin:=by
  grind[kindAll]
theorem arr_gives (h:Sup cx s a w μ ow) (e:TypeId) {xs:List V} {vs:List Value} {bl:List Nat} {sz:Nat} {k:Kd} (hl:RepL w (k.mu μ) (xs.flatMap V.cells) vs bl)
    (h1:∀v∈vs,v.oneCell'=true) (hz:∀x∈xs,x.cells.length=sz) (hs:0 < sz) (hb:∀b∈bl,VOK cx ow s.vw b) (hk:k=.flat→bl=[]) (hd:k≠.deep∧k≠.part) (ht:k≠.thin) :
    Gives cx s nid w μ ow (.slice (some ⟨w.heap.size,0,none⟩) xs.length xs.length) (w.alloc (.cells vs.toArray e)) (.ref nid) [.arr xs k] s.vw:=by
  have fresh:ow w.heap.size=none:=by
    cases q:ow w.heap.size with
    | none=>rfl
    | some q'=>have:=(h.owl w.heap.size (by grind)).lt;omega
  let loc:Loc:=⟨w.heap.size,0,sz,xs.length,xs.length,decide (0 < xs.length)⟩;refine ⟨Ext.alloc w _ _,id,[loc],bindOw ow w.heap.size nid,rfl,?_,?_,?_,fun μ' hm hloc=> ?_⟩
  · intro b hb'
    unfold bindOw;rw [if_neg]
    grind
  · intro b hb'
    unfold bindOw
    grind
  · intro b hb'
    unfold bindOw at hb';split at hb'
    · rename_i q;subst q;exact ⟨_,_,heap_new w _⟩
    · exact (h.owl b hb').keep ((Ext.alloc w _ _).old b (h.owl b hb').lt)
  · have hlast:μ' nid=some loc:=hloc 0 loc rfl
    refine ⟨⟨[],?_,by simp⟩,fun j bk ej=> ?_⟩
    · refine .ref nid loc _ hlast ?_
      by_cases h0:0 < xs.length
      · exact .real (l:=loc) (by grind)
      · have:xs.length=0:=by omega
        rw [this];exact .nil _ (by grind) (by omega)
    · cases j with
      | succ j=>grind
      | zero=>
        simp only [List.getElem?_cons_zero,Option.some.injEq] at ej;subst ej;refine ⟨loc,hlast,rfl,?_⟩
        by_cases h0:0 < xs.length
        · right
          have hc:=cells_new (μ:=k.mu μ) (μ':=k.mu μ') (xs:=xs) (sz:=sz) (by grind) (Kd.mu_mono hm) e hl h1 hz hs;have el:loc=⟨w.heap.size,0,sz,xs.length,xs.length,true⟩:=by grind
          refine ⟨by grind,by simp [bindOw,loc],bl,by grind,?_,fun _ q=>by grind⟩;cases k with
          | flat=>exact hk rfl
          | thin=>grind
          | deep=>grind
          | part=>grind
          | shal=>
            intro b hbb;refine (hb b hbb).mono ?_ id;have:=hl.lt b hbb;unfold bindOw
            grind
          | mix=>
            intro b hbb;refine (hb b hbb).mono ?_ id;have:=hl.lt b hbb;unfold bindOw
            grind
        grind
theorem noSl_all:∀{xs:List V} {vs:List Value} {bl:List Nat},RepL w μ (xs.flatMap V.cells) vs bl→xs.all V.noSl=true→bl=[]
  | [],_,_,h,_=>by cases h;rfl
  | x ::xs,_,_,h,hn=>by
    rw [List.all_cons,qlo] at hn;rw [qlz] at h;obtain ⟨x1,x2,b1,b2,rfl,rfl,h1,h2⟩:=RepL.split _ _ h;rw [noSl_all h2 hn.2,ql6];have hx:=hn.1;cases x with
    | agg cs=>exact noSl_cells h1 hx
    | fn f cs=>
      have:cs=[]:=by simpa [V.noSl] using hx
      subst this;cases h1 with
      | cons _ _ _ _ _ _ hc ht=>
        cases ht;cases hc with
        | fn _ _ _ _ hl=>cases hl;rfl
    | any=>cases h1 with
      | cons _ _ _ _ _ _ hc ht=>cases ht;cases hc;rfl
    | _ =>
      first
        | (simp [V.noSl] at hx;done)
        | (cases h1 with
           | cons _ _ _ _ _ _ hc ht=>cases ht;cases hc<;>rfl)
theorem litElems_spec {n:Nat} {ps:List (Nat×V)} {xs:List V} (h:litElems n ps=some xs) :
    ps.map (·.1)=List.range n∧(∀p∈ps,p.2.isVal=true)∧xs=ps.map fun p=>p.2:=by
  grind[litElems,List.all_eq_true,List.mem_map_of_mem]
theorem content_cells_len (x:V):(content x).cells.length=x.cells.length:=by
  cases x<;>simp [content,V.cells,contentL]
theorem Sup.evs (h:Sup cx s a w μ ow):∀l:List Operand,(∀x∈l,(s.ev x).gd=true∧(s.ev x).un.isVal=true)→
    ∃ bl,RepL w μ ((l.map fun x=>(s.ev x).un).flatMap V.cells) ((l.map a.eval).flatMap fun v=>v.cells.toList) bl∧(∀b∈bl,VOK cx ow s.vw b)∧
      (∀c∈((l.map a.eval).flatMap fun v=>v.cells.toList),c.oneCell'=true)∧∀x∈l,(a.eval x).cells.size=(s.ev x).un.cells.length
  | [],_=>⟨[],.nil,by simp,by simp,by simp⟩
  | x ::l,hv=>by
    obtain ⟨bl,h1,h2,h3,h4⟩:=h.evs l fun y hy=>hv y (qlg _ hy)
    have hx':=hv x (qle ..);have hx:=hx'.2;obtain ⟨bx,r1,r2⟩:=h.evu x hx'.1;obtain ⟨c1,c2⟩:=r1.cells hx;have d1:=c1;refine ⟨bx++bl,?_,fun b hb=>(qll.1 hb).elim (r2 b) (h2 b),?_,?_⟩
    · simp only [List.map_cons,List.flatMap_cons]
      exact c1.append h1
    · grind
    · intro y hy
      cases ql0.1 hy with
      | inl e=>subst e;have:=d1.length;grind
      | inr e=>grind
theorem buildSlice_sound (h:Sup cx s a w μ ow) (T e:TypeId) (n:Nat) (ps:Array (Nat×Operand)) (xs:List V) (ho:o.op=.buildSlice T n ps) (hu:P.underlying T=some (.slice e))
    (hx:litElems n (ps.toList.map fun p=>(p.1,(s.ev p.2).un))=some xs) (hgd:∀p∈ps.toList,(s.ev p.2).gd=true) (hp:0 < P.cellsOf e) (hn:n * P.cellsOf e≤16777216) (hz:(Program.zeroOf P e).isSome=true)
    (hlen:∀x∈xs,x.cells.length=P.cellsOf e) (hk:K (.ref nid) [.arr xs (kindAll xs)] s.vw):QV P cx s nid w μ ow o a K:=by
  obtain ⟨q1,q2,q3⟩:=litElems_spec hx;rw [List.map_map] at q1 q3;let l:=ps.toList.map (·.2);have hl1:l.length=n:=by
    have:=congrArg List.length q1
    grind
  have hxs:xs=l.map fun x=>(s.ev x).un:=by rw [q3,List.map_map];rfl
  have hval:∀x∈l,(s.ev x).gd=true∧(s.ev x).un.isVal=true:=by
    intro x hx;obtain ⟨p,hp,rfl⟩:=qma.1 hx;exact ⟨hgd p hp,q2 (p.1,(s.ev p.2).un) (qma.2 ⟨p,hp,rfl⟩)⟩
  obtain ⟨bl,r1,r2,r3,r4⟩:=h.evs l hval;have hsizes:∀v∈l.map a.eval,v.cells.size=P.cellsOf e:=by
    grind
  obtain ⟨z,hz'⟩:=qmb.1 hz;obtain ⟨ie,hi1,hi2⟩:=info_of_cells hp;have hzero:ie.zero=some z:=by grind[Program.zeroOf]
  have hparts:(ps.map fun x=>(x.1,a.eval x.2)).toList=(List.range' 0 (l.map a.eval).length).zip (l.map a.eval):=by
    grind[Array.toList_map,List.length_map,List.range_eq_range',List.map_map,List.zip_cons_cons]
  have hnz:l.length=n:=hl1;rw [←hxs] at r1;have hk1:RepL w ((kindAll xs).mu μ) (xs.flatMap V.cells) ((l.map a.eval).flatMap fun v=>v.cells.toList) bl:=by
    unfold kindAll
    by_cases q:xs.all V.noRef=true
    · rw [if_pos q];split<;>exact noRef_all r1 q
    · rw [if_neg q];exact r1
  have hkf:kindAll xs=.flat→bl=[]:=by
    unfold kindAll;intro hf
    by_cases q:xs.all V.noRef=true
    · rw [if_pos q] at hf
      by_cases q2:xs.all V.noSl=true
      · exact noSl_all r1 q2
      grind
    grind
  have hkd:kindAll xs≠.deep∧kindAll xs≠.part:=by grind[kindAll]
  have fin:=arr_gives (nid:=nid) h e (xs:=xs) (sz:=P.cellsOf e) (k:=kindAll xs) hk1 r3 hlen hp r2 hkf hkd (kindAll_thin xs);have hxl:xs.length=n:=by grind
  rw [hxl] at fin;refine ⟨_,_,_,_,_,run_op_v (by unfold execOp;rw [ho]) ?_,fin,hk⟩;have hfill:∀cells:Array Value,cells.size=n * P.cellsOf e→Instr.fill (fun i=>some (i * P.cellsOf e,P.cellsOf e)) cells (ps.map fun x=>(x.1,a.eval x.2)).toList=some ((l.map a.eval).flatMap fun x=>x.cells.toList).toArray:=by
    intro cells hc;rw [hparts,fill_lit (P.cellsOf e) (l.map a.eval) 0 cells hsizes (by grind)];simp
  have hno:¬(2 ^ 24 < n * P.cellsOf e):=by omega
  simp only [Instr.buildSlice,Sem.run_bind,run_underlying hu,Result.andThen_ok,run_sizeOf hp,gt_iff_lt,hno,if_false,Sem.run_pure]
  by_cases hn0:n * P.cellsOf e=0
  · simp only [hn0,if_true,Sem.run_bind,Sem.run_pure,Result.andThen_ok]
    rw [hfill _ (by grind)];rfl
  · simp only [hn0,if_false]
    have hzr:(zeroValue e).run P w=.ok z w:=by simp_all[zeroValue,typeInfo]
    simp only [Sem.run_bind,hzr,Result.andThen_ok,Sem.run_pure];rw [hfill _ (by simp)];rfl
theorem replicate_cells (x:V) (n:Nat):(List.replicate n x).flatMap V.cells=(List.replicate n x.cells).flatten:=by
  simp [List.flatMap_replicate]
theorem madeCells_list (z:Array Value) (n:Nat) (hz:0 < z.size):(madeCells z (n * z.size)).toList=(List.replicate n z.toList).flatten:=by
  apply List.ext_getElem?;intro i;have hlen:(List.replicate n z.toList).flatten.length=n * z.size:=by simp
  by_cases hi:i < n * z.size
  · have h1:i % z.size < z.size:=Nat.mod_lt _ hz
    have hq:i / z.size < n:=Nat.div_lt_of_lt_mul (by grind);rw [qla (by grind[madeCells]),qla (by omega)]
    congr 1
    have e1:(madeCells z (n * z.size)).toList[i]'(by grind[madeCells])=z[i % z.size]! :=by simp [madeCells]
    rw [e1];have key:∀(m j:Nat),j < m * z.size→∀hj:j < (List.replicate m z.toList).flatten.length,(List.replicate m z.toList).flatten[j]'hj=z[j % z.size]! :=by
      intro m
      induction m with
      | zero=>simp
      | succ m ih=>
        intro j hj hj';simp only [List.replicate_succ,List.flatten_cons]
        by_cases hjs:j < z.size
        · grind[List.getElem_append_left,Nat.mod_eq_of_lt]
        · have hge:z.size≤j:=Nat.le_of_not_lt hjs
          rw [List.getElem_append_right (by omega)];have hlt:j - z.size < m * z.size:=by grind
          have:=ih (j - z.size) hlt (by grind);simp only [Array.length_toList];rw [this]
          congr 1
          conv=>rhs;rw [←Nat.sub_add_cancel hge,Nat.add_mod_right]
    grind
  grind[List.getElem?_eq_none,madeCells]
theorem RepL.replicate {cs:List V} {vs:List Value} (h:RepL w μ cs vs []):∀n:Nat,RepL w μ (List.replicate n cs).flatten (List.replicate n vs).flatten []
  | 0=>.nil
  | n+1=>by
    simp only [List.replicate_succ,List.flatten_cons];exact h.append (RepL.replicate h n)
theorem makeSlice_sound (h:Sup cx s a w μ ow) (t e:TypeId) (l c:Operand) (ho:o.op=.makeSlice t l c) (hu:P.underlying t=some (.slice e)) (kl kc:IntKind) (n:Int)
    (hl:(s.ev l).un=.int kl n) (hc:(s.ev c).un=.int kc n) (hgl:(s.ev l).gd=true) (hgc:(s.ev c).gd=true) (z:Value) (hz:Program.zeroOf P e=some z)
    (h0:0≤n) (hb:P.bytesOf e * n≤281474976710656) (h63:n≤9223372036854775807) (hv:(V.ofValue z).isVal=true) (hlen:(V.ofValue z).cells.length=P.cellsOf e) (hp:0 < P.cellsOf e)
    (hnr:(content (V.ofValue z)).noRef=true) (hns:(V.ofValue z).noSl=true) (hk:K (.ref nid) [.arr (List.replicate n.toNat (content (V.ofValue z))) .flat] s.vw):QV P cx s nid w μ ow o a K:=by
  obtain ⟨_,rl,_⟩:=h.evu l hgl;obtain ⟨_,rc,_⟩:=h.evu c hgc;rw [hl] at rl;rw [hc] at rc;have el:=rl.int_inv;have ec:=rc.int_inv;obtain ⟨ie,hi1,hi2⟩:=info_of_cells hp;have hzero:ie.zero=some z:=by grind[Program.zeroOf]
  have hbytes:(ie.bytes:Int) * n≤281474976710656:=by
    grind[Program.bytesOf]
  have hrun:=run_make (P:=P) w t e ie z hu hi1 hzero kl kc n n h0 (Int.le_refl _) hbytes h63;have rz:=Rep.ofValue (w:=w) (μ:=μ) z;obtain ⟨z1,z2⟩:=rz.cells hv;obtain ⟨y1,y2⟩:=(content_rep rz).cells (content_isVal hv);have hzs:z.cells.size=P.cellsOf e:=by have:=z1.length;grind
  have hcells:(madeCells z.cells (n.toNat * ie.size)).toList=(List.replicate n.toNat z.cells.toList).flatten:=by
    grind[madeCells_list]
  have r1:RepL w μ ((List.replicate n.toNat (content (V.ofValue z))).flatMap V.cells) (madeCells z.cells (n.toNat * ie.size)).toList []:=by
    grind[replicate_cells,RepL.replicate]
  have r3:∀v∈(madeCells z.cells (n.toNat * ie.size)).toList,v.oneCell'=true:=by
    simp_all
  have r1':=noRef_all r1 (by grind);have fin:=arr_gives (nid:=nid) h e (xs:=List.replicate n.toNat (content (V.ofValue z))) (sz:=P.cellsOf e) (k:=.flat) r1' r3
    (by grind[content_cells_len]) hp (by simp) (fun _=>rfl) (by simp) (by simp)
  rw [List.length_replicate] at fin;simp only [Array.toArray_toList] at fin;exact ⟨_,_,_,_,_,run_op_v (by unfold execOp;rw [ho]) (by grind),fin,hk⟩
end
end Go.Vm
namespace Go.Vm
open Go
theorem flatMap_take:∀(xs:List V) (sz:Nat) (_:∀x∈xs,x.cells.length=sz) (n:Nat),(xs.take n).flatMap V.cells=(xs.flatMap V.cells).take (n * sz)
  | [],_,_,n=>by simp
  | x::xs,sz,hz,0=>by simp
  | x::xs,sz,hz,n+1=>by
    have hx:=hz x (qle ..);have e:(n+1) * sz=x.cells.length+n * sz:=by grind
    rw [List.take_succ_cons,qlz,qlz,flatMap_take xs sz (fun y hy=>hz y (qlg _ hy)) n,e,List.take_length_add_append]
theorem flatMap_drop:∀(xs:List V) (sz:Nat) (_:∀x∈xs,x.cells.length=sz) (n:Nat),(xs.drop n).flatMap V.cells=(xs.flatMap V.cells).drop (n * sz)
  | [],_,_,n=>by simp
  | x::xs,sz,hz,0=>by simp
  | x::xs,sz,hz,n+1=>by
    have hx:=hz x (qle ..);have e:(n+1) * sz=x.cells.length+n * sz:=by grind
    rw [List.drop_succ_cons,qlz,flatMap_drop xs sz (fun y hy=>hz y (qlg _ hy)) n,e,←List.drop_drop,List.drop_left]
section
variable {P:Program} {cx:Cx} {s:St} {nid:Nat} {a:Act} {w:World} {μ:Nat→Option Loc} {ow:Ow} {o:Oper} {K:KV}
def BoundOf (d:Int) (v:Option Value) (n:Int):Prop:=(v=none∧n=d)∨∃k,v=some (.int k n)
theorem bound_of (h:Sup cx s a w μ ow) (d:Int) (x:Option Operand) (n:Int) (hg:∀y,x=some y→(s.ev y).gd=true) (hb:bound d (x.map fun y=>(s.ev y).un)=some n):BoundOf d (x.map a.eval) n:=by
  cases x with
  | none=>left;simpa [bound,eq_comm] using hb
  | some y=>
    right;obtain ⟨_,r,_⟩:=h.evu y (hg y rfl);simp only [Option.map_some] at hb⊢;generalize (s.ev y).un=v at *;cases v<;>simp [bound] at hb
    subst hb;exact ⟨_,congrArg some r.int_inv⟩
theorem run_bounds {isSlice:Bool} {len cap:Nat} {lo hi:Option Value} {l h:Int} (hl:BoundOf 0 lo l) (hh:BoundOf len hi h) (h0:0≤l) (h1:l≤h) (h2:h≤cap) :
    (Instr.sliceBounds isSlice len cap lo hi none).run P w=.ok (l.toNat,h.toNat,cap) w:=by
  rcases hl with ⟨rfl,rfl⟩ | ⟨k,rfl⟩<;>rcases hh with ⟨rfl,rfl⟩ | ⟨k',rfl⟩
  · rfl
  · simp_all[run_sliceBound,Instr.sliceBounds]
  · simp_all[run_sliceBound,Instr.sliceBounds]
  · have e:=fun code=>run_sliceBound (P:=P) w k' h cap code (by omega) h2
    have e2:=fun code=>run_sliceBound (P:=P) w k l h.toNat code h0 (by omega)
    simp [Instr.sliceBounds,e,e2]
theorem run_sliceS {t e:TypeId} {ad:Option Addr} {len cap:Nat} {lo hi:Option Value} {l h:Int} (ht:P.underlying t=some (.slice e)) (hp:0 < P.cellsOf e)
    (hl:BoundOf 0 lo l) (hh:BoundOf len hi h) (h0:0≤l) (h1:l≤h) (h2:h≤cap) :
    (Instr.sliceAt t (.slice ad len cap) lo hi none).run P w=.ok (.slice (if cap=l.toNat then ad else ad.map (·.add (l.toNat * P.cellsOf e))) (h.toNat - l.toNat) (cap - l.toNat)) w:=by
  simp only [Instr.sliceAt,Instr.slice,Sem.run_bind,run_underlying ht,Result.andThen_ok,run_bounds hl hh h0 h1 h2,run_sizeOf hp,Sem.run_pure]
theorem run_sliceStr {t:TypeId} {b:ByteArray} {lo hi:Option Value} {l h:Int} (ht:P.underlying t=some .string)
    (hl:BoundOf 0 lo l) (hh:BoundOf b.size hi h) (h0:0≤l) (h1:l≤h) (h2:h≤b.size) :
    (Instr.sliceAt t (.string b) lo hi none).run P w=.ok (.string (b.extract l.toNat h.toNat)) w:=by
  have hb:=run_bounds (P:=P) (w:=w) (isSlice:=false) (len:=b.size) (cap:=b.size) hl hh h0 h1 h2
  simp_all[Instr.sliceAt,Instr.slice,Sem.run_bind,run_underlying]
theorem slice_sound (h:Sup cx s a w μ ow) (t:TypeId) (x:Operand) (lo hi:Option Operand) (ho:o.op=.slice t x lo hi none) (hg:(s.ev x).gd=true)
    (hgl:∀y,lo=some y→(s.ev y).gd=true) (hgh:∀y,hi=some y→(s.ev y).gd=true)
    (hk:aSlice P s t true K (s.ev x).un (lo.map fun y=>(s.ev y).un) (hi.map fun y=>(s.ev y).un)):QV P cx s nid w μ ow o a K:=by
  obtain ⟨bx,rx,hb⟩:=h.evu x hg;have hlo:=fun d n=>bound_of h d lo n hgl
  have hhi:=fun d n=>bound_of h d hi n hgh
  have fin:∀{v:Value} {val:V} {bl:List Nat},(Instr.sliceAt t (a.eval x) (lo.map a.eval) (hi.map a.eval) none).run P w=.ok v w→Rep w μ val v bl→(∀b∈bl,VOK cx ow s.vw b)→K val [] s.vw→QV P cx s nid w μ ow o a K:=
    fun h1 h2 h3 h4=>QV.pure h (run_op_v (by grind[execOp]) h1) h2 h3 (fun q=>q) h4
  generalize (s.ev x).un=vx at *;generalize (lo.map fun y=>(s.ev y).un)=vlo at *;generalize (hi.map fun y=>(s.ev y).un)=vhi at *;generalize lo.map a.eval=alo at *;generalize hi.map a.eval=ahi at *;generalize hax:a.eval x=ax at *;unfold aSlice at hk;split at hk
  · rename_i b
    obtain ⟨ht,hk⟩:=hk;split at hk
    · rename_i l h' e1 e2
      obtain ⟨hc,hk⟩:=hk;obtain ⟨h0,h1,h2⟩:=hc rfl;have:=rx.str_inv;subst this;exact fin (run_sliceStr ht (hlo _ _ e1) (hhi _ _ e2) h0 h1 h2) (.str _) (by simp) hk
    grind
  · rename_i xs
    obtain ⟨⟨e,ht,hp,hc⟩,hk⟩:=hk;split at hk
    · rename_i l h' e1 e2
      obtain ⟨hc',hk⟩:=hk;obtain ⟨h0,h1,h2⟩:=hc' rfl;cases rx with
      | sl0 q c=>
        have hb2:BoundOf ((0:Nat):Int) ahi h':=by grind
        have hh0:h'=0:=by grind
        have hl0:l=0:=by omega
        refine fin (run_sliceS ht hp (hlo _ _ e1) hb2 h0 h1 (by omega)) ?_ (bl:=[]) (by simp) hk;subst hh0;subst hl0;simp only [List.take_nil,List.drop_nil];exact .sl0 _ _
      | sl _ b off c sz vs bl hne hcap hs hz hl hone hr=>
        have hes:sz=P.cellsOf e:=by
          cases xs with
          | nil=>grind
          | cons y ys=>grind
        have hrun:=run_sliceS (P:=P) (w:=w) (ad:=some ⟨b,off,none⟩) (cap:=c) ht hp (hlo _ _ e1) (hhi _ _ e2) h0 h1 (by omega)
        by_cases hlt:l < h'
        · rw [if_neg (by omega)] at hrun
          simp only [Option.map_some,Addr.add_none] at hrun;have hlen:((xs.take h'.toNat).drop l.toNat).length=h'.toNat - l.toNat:=by grind
          obtain ⟨b',p1,p2⟩:=hl.part (l.toNat * sz) ((h'.toNat - l.toNat) * sz);refine fin hrun (bl:=b::b') ?_ ?_ hk
          · have hflat:((xs.take h'.toNat).drop l.toNat).flatMap V.cells=((xs.flatMap V.cells).drop (l.toNat * sz)).take ((h'.toNat - l.toNat) * sz):=by
              grind[flatMap_drop,List.mem_of_mem_take,flatMap_take,List.drop_take,Nat.sub_mul]
            have := Rep.sl (w:=w) (μ:=μ) ((xs.take h'.toNat).drop l.toNat) b (off+l.toNat * sz) (c - l.toNat) sz ((vs.drop (l.toNat * sz)).take ((h'.toNat - l.toNat) * sz)) b'
              (by intro e;rw [e] at hlen;simp at hlen;omega) ⟨by omega,hcap.2.le (by have:=hcap.1;have e:l.toNat * sz+(c - l.toNat) * sz=c * sz:=by {rw [←Nat.add_mul];congr 1;omega};omega)⟩ hs (fun y hy=>hz y (ql3 (List.mem_of_mem_drop hy))) (by grind)
              (fun y hy=>hone y (List.mem_of_mem_drop (ql3 hy)))
              (by
                intro j y hj;have hjl:j < (h'.toNat - l.toNat) * sz:=by
                  grind
                rw [List.getElem?_take_of_lt hjl,List.getElem?_drop] at hj;rw [Nat.add_assoc];exact hr _ y hj)
            grind
          grind
        · have heq:h'.toNat - l.toNat=0:=by omega
          rw [heq] at hrun;refine fin hrun (bl:=[]) ?_ (by simp) hk;have:(xs.take h'.toNat).drop l.toNat=[]:=qlt (by grind);rw [this];exact .sl0 _ _
    grind
  · rename_i id
    cases hrow:s.row id with
    | none=>grind
    | some xk =>
      obtain ⟨xs,kd⟩:=xk;rw [hrow] at hk;obtain ⟨⟨e,ht,hp,hc⟩,hk⟩:=hk;split at hk
      · rename_i l h' e1 e2
        obtain ⟨hc',hk⟩:=hk;obtain ⟨h0,h1,h2⟩:=hc' rfl;obtain ⟨l',q1,q2,q3⟩:=h.row hrow;cases rx with
        | ref _ loc _ hloc hd=>
          rw [hloc] at q1;cases q1;cases hd with
          | nil q hf hn0=>
            have hx0:xs.length=0:=by omega
            have hh0:h'=0:=by omega
            have hl0:l=0:=by omega
            have hb2:BoundOf ((0:Nat):Int) ahi h':=by grind
            refine fin (run_sliceS (cap:=0) ht hp (hlo _ _ e1) hb2 h0 h1 (by omega)) (bl:=[]) ?_ (by simp) hk;subst hh0;subst hl0;exact .sub0 id 0 l' _ hloc (by omega)
          | real hreal=>
            have hb2:BoundOf ((l'.n:Nat):Int) ahi h':=by grind
            rcases q3 with ⟨q3,_⟩ | ⟨q3,q4,bl,q5,q6,q7⟩
            · grind
            · have hle:=q5.le
              refine fin (run_sliceS ht hp (hlo _ _ e1) hb2 h0 h1 (by omega)) (bl:=[]) ?_ (by simp) hk
              by_cases hce:l'.cap=l.toNat
              · rw [if_pos hce]
                have h3:h'.toNat - l.toNat=0:=by omega
                have h4:l'.cap - l.toNat=0:=by omega
                rw [h3,h4];exact .sub0 id _ l' _ hloc (by omega)
              · rw [if_neg hce]
                simp only [Option.map_some,Addr.add_none];have hpos:0 < xs.length∨xs.length=0:=by omega
                rcases hpos with hpos | hpos
                · have hes:l'.sz=P.cellsOf e:=sizeOf_pos q5.each hpos hc
                  rw [←hes];exact .sub id l.toNat (h'.toNat - l.toNat) l' hloc q3 (by omega)
                · have h5:l=0:=by omega
                  have h6:h'=0:=by omega
                  subst h5;subst h6;simp only [Int.toNat_zero,Nat.zero_mul,Nat.add_zero,Nat.sub_zero];have:=Rep.sub (w:=w) (μ:=μ) id 0 0 l' hloc q3 (by omega)
                  grind
      grind
  · rename_i id lo0 n
    cases hrow:s.row id with
    | none=>grind
    | some xk =>
      obtain ⟨xs,kd⟩:=xk;rw [hrow] at hk;obtain ⟨⟨e,ht,hp,hc⟩,hk⟩:=hk;split at hk
      · rename_i l h' e1 e2
        obtain ⟨hc',hk⟩:=hk;obtain ⟨h0,h1,h2⟩:=hc' rfl;obtain ⟨l',q1,q2,q3⟩:=h.row hrow;cases rx with
        | sub0 _ _ loc q hloc hn=>
          rw [hloc] at q1;cases q1;have hh0:h'=0:=by omega
          have hl0:l=0:=by omega
          refine fin (run_sliceS (cap:=0) ht hp (hlo _ _ e1) (by grind) h0 h1 (by omega)) (bl:=[]) ?_ (by simp) hk;subst hh0;subst hl0;exact .sub0 id _ l' _ hloc (by omega)
        | sub _ _ _ loc hloc hreal hn=>
          rw [hloc] at q1;cases q1;rcases q3 with ⟨q3,_⟩ | ⟨q3,q4,bl,q5,q6,q7⟩
          · grind
          · have hle:=q5.le
            refine fin (run_sliceS ht hp (hlo _ _ e1) (hhi _ _ e2) h0 h1 (by omega)) (bl:=[]) ?_ (by simp) hk
            by_cases hce:l'.cap - lo0=l.toNat
            · rw [if_pos hce]
              have h3:h'.toNat - l.toNat=0:=by omega
              have h4:l'.cap - lo0 - l.toNat=0:=by omega
              rw [h3,h4];exact .sub0 id _ l' _ hloc (by omega)
            · rw [if_neg hce]
              simp only [Option.map_some,Addr.add_none];have hpos:0 < xs.length∨xs.length=0:=by omega
              rcases hpos with hpos | hpos
              · have hes:l'.sz=P.cellsOf e:=sizeOf_pos q5.each hpos hc
                rw [←hes];have:=Rep.sub (w:=w) (μ:=μ) id (lo0+l.toNat) (h'.toNat - l.toNat) l' hloc q3 (by omega)
                grind
              · have h5:l=0:=by omega
                have h6:h'=0:=by omega
                have h7:lo0=0:=by omega
                subst h5;subst h6;subst h7;have:=Rep.sub (w:=w) (μ:=μ) id 0 0 l' hloc q3 (by omega)
                grind
      grind
  grind
theorem minmax_sound (mx:Bool) (h:Sup cx s a w μ ow) (c:Call) (ho:o.op=.call c) (hcal:c.callee=.builtin (if mx then .max else .min)) (hg:∀x∈c.args.toList,(s.ev x).gd=true)
    (hk:aMinMax mx s.vw K (c.args.toList.map fun x=>(s.ev x).un)):QV P cx s nid w μ ow o a K:=by
  obtain ⟨callee,args,tys⟩:=c;obtain ⟨l⟩:=args;simp only at hcal hg hk;cases l with
  | nil=>simp [aMinMax] at hk
  | cons x l=>
    cases l with
    | nil=>simp [aMinMax] at hk
    | cons y l=>
      cases l with
      | cons z l=>simp [aMinMax] at hk
      | nil=>
        obtain ⟨_,rx,_⟩:=h.evu x (hg x (by simp));obtain ⟨_,ry,_⟩:=h.evu y (hg y (by simp));simp only [List.map_cons,List.map_nil] at hk;generalize (s.ev x).un=vx at *;generalize (s.ev y).un=vy at *;unfold aMinMax at hk;split at hk
        · rename_i k m k' n heq
          simp only [List.cons.injEq,and_true] at heq;obtain ⟨rfl,rfl⟩:=heq;obtain ⟨rfl,hk⟩:=hk;have e1:=rx.int_inv;have e2:=ry.int_inv;refine QV.pure (v:=.int k (if mx then (if n > m then n else m) else (if n < m then n else m))) h ?_ (.int _ _) (by simp) (fun q=>q) hk;unfold execOp;rw [ho];subst hcal;cases mx<;>simp [resolve,invoke,builtin,e1,e2,Builtin.max_,Builtin.min_,Builtin.max2,Builtin.min2]
        grind
theorem fill_rep (places:Nat→Option (Nat×Nat)) {cx:Cx} {ow:Ow} {vw:Bool}:∀(ps:List (Nat×V)) (vs:List (Nat×Value)) (cs:List V) (cells:Array Value) (bl:List Nat) (cs':List V),
    ps.map (·.1)=vs.map (·.1)→(∀(j:Nat) (p:Nat×V) (v:Nat×Value),ps[j]? =some p→vs[j]? =some v→p.2.isVal=true∧∃b,Rep w μ p.2 v.2 b∧∀y∈b,VOK cx ow vw y)→
    RepL w μ cs cells.toList bl→(∀b∈bl,VOK cx ow vw b)→(∀c∈cells.toList,c.oneCell'=true)→fillV places cs ps=some cs'→
    ∃cells' bl',Instr.fill places cells vs=some cells'∧RepL w μ cs' cells'.toList bl'∧(∀b∈bl',VOK cx ow vw b)∧∀c∈cells'.toList,c.oneCell'=true
  | [],[],cs,cells,bl,cs',_,_,hr,hb,h1,hf=>by
    simp only [fillV,Option.some.injEq] at hf;subst hf;exact ⟨cells,bl,rfl,hr,hb,h1⟩
  | [],v::vs,_,_,_,_,e,_,_,_,_,_=>by grind
  | p::ps,[],_,_,_,_,e,_,_,_,_,_=>by grind
  | (i, x) :: ps,(i',v)::vs,cs,cells,bl,cs',e,hrep,hr,hb,h1,hf=>by
    simp only [List.map_cons,List.cons.injEq] at e;obtain ⟨rfl,e⟩:=e;obtain ⟨hv,bx,rx,vx⟩:=hrep 0 (i,x) (i,v) rfl rfl;unfold fillV at hf;cases hpl:places i with
    | none=>grind
    | some q=>
      obtain ⟨off,size⟩:=q;rw [hpl] at hf;simp only at hf;split at hf
      · rename_i hsz
        obtain ⟨c1,c2⟩:=rx.cells hv;have hlen:=hr.length;have hxl:=c1.length;simp only [Array.length_toList] at hlen hxl;have hle:off+v.cells.size≤cells.size:=by omega
        have hsg:=seg cells off v.cells hle;obtain ⟨b1,t1,t2⟩:=hr.take off;obtain ⟨b2,d1,d2⟩:=hr.drop (off+size);have hnew:RepL w μ (cs.take off++x.cells++cs.drop (off+size)) (v.cells.zipIdx.foldl (init:=cells) fun cs (c,j)=>cs.setIfInBounds (off+j) c).toList (b1++bx++b2):=by
          rw [hsg,show off+v.cells.size=off+size by omega];exact (t1.append c1).append d1
        have hone:∀c∈(v.cells.zipIdx.foldl (init:=cells) fun cs (c,j)=>cs.setIfInBounds (off+j) c).toList,c.oneCell'=true:=by
          grind
        obtain ⟨cells',bl',f1,f2,f3,f4⟩:=fill_rep places ps vs _ _ _ cs' e (fun j p v h2 h3=>hrep (j+1) p v (by grind) (by grind)) hnew
          (fun b hbb=>by
            grind) hone hf
        refine ⟨cells',bl',?_,f2,f3,f4⟩
        simp_all[Instr.fill,Bool.false_eq_true,if_false]
      grind
theorem build_sound (h:Sup cx s a w μ ow) (T:TypeId) (ps:Array (Nat×Operand)) (fs:Array Field) (z:Value) (cs:List V) (ho:o.op=.build T ps) (hu:P.underlying T=some (.struct fs))
    (hz:Program.zeroOf P T=some z) (hf:fillV (fun i=>(fs[i]?).map fun f=>(f.offset,P.cellsOf f.type)) (V.ofValue z).cells (ps.toList.map fun p=>(p.1,(s.ev p.2).un))=some cs)
    (hp:∀f∈fs.toList,0 < P.cellsOf f.type) (hv:(V.ofValue z).isVal=true) (hg:∀p∈ps.toList,(s.ev p.2).gd=true∧(s.ev p.2).un.isVal=true) (hk:K (.agg cs) [] s.vw):QV P cx s nid w μ ow o a K:=by
  have rz:=Rep.ofValue (w:=w) (μ:=μ) z;obtain ⟨z1,z2⟩:=rz.cells hv;obtain ⟨cells',bl',f1,f2,f3,f4⟩:=fill_rep (cx:=cx) (ow:=ow) (vw:=s.vw) _ _ (ps.toList.map fun p=>(p.1,a.eval p.2)) _ z.cells [] cs (by simp)
    (by
      intro j p v h1 h2;rw [List.getElem?_map] at h1 h2;cases q:ps.toList[j]? with
      | none=>grind
      | some x=>
        rw [q] at h1 h2;simp only [Option.map_some,Option.some.injEq] at h1 h2;subst h1;subst h2;have hx:=hg x (qlb q);obtain ⟨b,r1,r2⟩:=h.evu x.2 hx.1
        grind) z1 (by simp) z2 hf
  have hplaces:fs.toList.mapM (fun f=>(P.info? f.type).map fun i=>(f.offset,i.size))=some (fs.toList.map fun f=>(f.offset,P.cellsOf f.type)):=by
    generalize fs.toList=L at hp
    induction L with
    | nil=>rfl
    | cons f L ih=>
      grind[info_of_cells,List.mem_cons_self,List.mem_cons_of_mem]
  have hit:∃it,P.info? T=some it∧it.zero=some z:=by
    unfold Program.zeroOf at hz;cases q:P.info? T with
    | none=>grind
    | some it=>grind
  obtain ⟨it,hi1,hi2⟩:=hit;have hbuilt:P.built T (ps.map fun p=>(p.1,a.eval p.2)).toList=some cells':=by
    unfold Program.built
    simp_all
  refine QV.pure (v:=.agg cells') (bl:=bl') h (run_op_v (by unfold execOp;rw [ho]) (run_build w T _ cells' hbuilt)) ?_ f3 (fun q=>q) hk;have:=Rep.agg _ _ _ f2 f4;omega
theorem buildArr_sound (h:Sup cx s a w μ ow) (T:TypeId) (ps:Array (Nat×Operand)) (len:Nat) (e:TypeId) (z:Value) (cs:List V) (ho:o.op=.build T ps) (hu:P.underlying T=some (.array len e))
    (hz:Program.zeroOf P T=some z) (hf:fillV (fun i=>some (i * P.cellsOf e,P.cellsOf e)) (V.ofValue z).cells (ps.toList.map fun p=>(p.1,(s.ev p.2).un))=some cs)
    (hp:0 < P.cellsOf e) (hv:(V.ofValue z).isVal=true) (hg:∀p∈ps.toList,(s.ev p.2).gd=true∧(s.ev p.2).un.isVal=true) (hk:K (.agg cs) [] s.vw):QV P cx s nid w μ ow o a K:=by
  have rz:=Rep.ofValue (w:=w) (μ:=μ) z;obtain ⟨z1,z2⟩:=rz.cells hv;obtain ⟨cells',bl',f1,f2,f3,f4⟩:=fill_rep (cx:=cx) (ow:=ow) (vw:=s.vw) _ _ (ps.toList.map fun p=>(p.1,a.eval p.2)) _ z.cells [] cs (by simp)
    (by
      intro j p v h1 h2;rw [List.getElem?_map] at h1 h2;cases q:ps.toList[j]? with
      | none=>grind
      | some x=>
        rw [q] at h1 h2;simp only [Option.map_some,Option.some.injEq] at h1 h2;subst h1;subst h2;have hx:=hg x (qlb q);obtain ⟨b,r1,r2⟩:=h.evu x.2 hx.1
        grind) z1 (by simp) z2 hf
  obtain ⟨ie,he1,he2⟩:=info_of_cells hp;have hit:∃it,P.info? T=some it∧it.zero=some z:=by
    unfold Program.zeroOf at hz;cases q:P.info? T with
    | none=>grind
    | some it=>grind
  obtain ⟨it,hi1,hi2⟩:=hit;have hbuilt:P.built T (ps.map fun p=>(p.1,a.eval p.2)).toList=some cells':=by
    simp_all[Program.built,Array.toList_map]
  refine QV.pure (v:=.agg cells') (bl:=bl') h (run_op_v (by unfold execOp;rw [ho]) (run_build w T _ cells' hbuilt)) ?_ f3 (fun q=>q) hk;have:=Rep.agg _ _ _ f2 f4;omega
end
end Go.Vm
