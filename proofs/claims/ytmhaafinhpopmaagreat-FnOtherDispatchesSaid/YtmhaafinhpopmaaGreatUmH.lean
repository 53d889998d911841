/- The value machine, part 8. -/
import Derived.ProofKit
import Derived.OpenShut
import Derived.JoinedCond
import Derived.Carry
import Derived.Test.YtmhaafinhpopmaaGreatUmG
set_option linter.unusedSimpArgs false
set_option linter.unusedVariables false
set_option linter.defProp false
namespace Go.Vm
open Go
inductive Sh where
  | int (k:IntKind)
  | bool
  | str
  | sl (agg:Bool) (cs:List Sh)
def shFs (P:Program) (g:TypeId→Option (List Sh)) (tot:Nat):List Field→Nat→Option (List Sh)
  | [],o=>if o=tot then some [] else none
  | f::fs,o=>if f.offset=o then match g f.type,shFs P g tot fs (o+P.cellsOf f.type) with
    | some a,some b=>some (a++b)
    | _,_=>none
    else none
def shC (P:Program):Nat→TypeId→Option (List Sh)
  | 0,_=>none
  | n+1,t=>match P.underlying t with
    | some .bool=>some [.bool]
    | some (.int k)=>some [.int k]
    | some .string=>some [.str]
    | some (.slice e)=>if 0 < P.cellsOf e then (shC P n e).map fun cs=>[.sl (Program.isAggT P e) cs] else none
    | some (.struct fs)=>shFs P (shC P n) (P.cellsOf t) fs.toList 0
    | _=>none
mutual
def Sh.has:Sh→V→Prop
  | .int k,v=>∃n,v=.int k n∧(Lit.int k n).wf=true
  | .bool,v=>∃b,v=.bool b
  | .str,v=>∃s,v=.str s∧s.size≤maxLen
  | .sl agg cs,v=>∃xs,v=.sl xs∧xs.length≤maxLen∧∀x∈xs,if agg then ∃l,x=.agg l∧Sh.hasL cs l else Sh.hasL cs [x]
def Sh.hasL:List Sh→List V→Prop
  | [],[]=>True
  | s::ss,v::vs=>s.has v∧Sh.hasL ss vs
  | _,_=>False
end
theorem hasL_append:∀{a:List Sh} {l:List V} {b:List Sh} {k:List V},Sh.hasL a l→Sh.hasL b k→Sh.hasL (a++b) (l++k)
  | [],[],_,_,_,h=>h
  | s::ss,v::vs,_,_,h,k=>by
    rw [Sh.hasL] at h;rw [List.cons_append,List.cons_append,Sh.hasL];exact ⟨h.1,hasL_append h.2 k⟩
  | [],_::_,_,_,h,_=>by simp [Sh.hasL] at h
  | _::_,[],_,_,h,_=>by simp [Sh.hasL] at h
theorem hasL_one {s:Sh}:∀{l:List V},Sh.hasL [s] l→∃v,l=[v]∧s.has v
  | [v],h=>by rw [Sh.hasL] at h;grind
  | [],h=>by simp [Sh.hasL] at h
  | v::u::l,h=>by grind[Sh.hasL]
theorem has_cells {s:Sh} {v:V} (h:s.has v):v.cells=[v]:=by
  cases s with
  | int k=>rw [Sh.has] at h;obtain ⟨n,rfl,_⟩:=h;rfl
  | bool=>rw [Sh.has] at h;obtain ⟨n,rfl⟩:=h;rfl
  | str=>rw [Sh.has] at h;obtain ⟨n,rfl,_⟩:=h;rfl
  | sl a cs=>rw [Sh.has] at h;obtain ⟨n,rfl,_⟩:=h;rfl
theorem shC_one {P:Program} {n:Nat} {t:TypeId} {sh:List Sh} (h:shC P n t=some sh) (ha:Program.isAggT P t=false):∃s,sh=[s]:=by
  cases n with
  | zero=>simp [shC] at h
  | succ n=>
    unfold shC at h;unfold Program.isAggT at ha;split at h
    · grind
    · grind
    · grind
    · grind[Option.map_eq_some_iff]
    · grind
    grind
section
variable {H:Type} {enc:TypeId×Value→H} {P:Program} {w:World} {spare:Nat→Bool} {held:Bool}
theorem addr_add_add (a:Addr) (i j:Nat):(a.add i).add j=a.add (i+j):=by
  grind[Addr.add,Nat.add_assoc]
structure Seen (w:World) (sh:List Sh) (vs:List Value) (l:List V):Prop where
  rep:∃bl,RepL w M0 l vs bl∧∀b∈bl,b < w.heap.size
  has:Sh.hasL sh l
  one:∀c∈vs,c.oneCell'=true
theorem seen_struct {m n:Nat} {tot:Nat} {cs:List Value} (ih:∀(t:TypeId) (cs:List Value) x sh,shC P n t=some sh→DataW.trod enc P w 0 spare held m t cs=some x→∃l,Seen w sh cs l) (hlen:cs.length=tot) :
    ∀(fs:List Field) (o:Nat) (sh:List Sh),shFs P (shC P n) tot fs o=some sh→(∀f∈fs,∃x,DataW.trod enc P w 0 spare held m f.type ((cs.drop f.offset).take (P.cellsOf f.type))=some x)→o≤tot→∃l,Seen w sh (cs.drop o) l
  | [],o,sh,h,_,_=>by
    simp only [shFs] at h;split at h
    · rename_i e
      subst e;cases h;rw [qlt (by omega)];exact ⟨[],⟨[],.nil,by simp⟩,trivial,by simp⟩
    grind
  | f :: fs, o, sh,h,hx,ho=>by
    simp only [shFs] at h;split at h
    · rename_i e
      split at h
      · rename_i a b ha hb
        cases h;obtain ⟨x,hx0⟩:=hx f (qle ..);rw [e] at hx0;have hle:o+P.cellsOf f.type≤tot:=by
          rcases qly tot (o+P.cellsOf f.type) with q | q
          · have:∀(fs:List Field) o sh,tot < o→shFs P (shC P n) tot fs o=some sh→False:=by
              intro fs
              induction fs with
              | nil=>grind[shFs]
              | cons f fs ih2=>
                grind[shFs]
            grind
          omega
        obtain ⟨l1,⟨b1,r1,k1⟩,h1,o1⟩:=ih _ _ _ _ ha hx0;obtain ⟨l2,⟨b2,r2,k2⟩,h2,o2⟩:=seen_struct ih hlen fs _ b hb (fun f hf=>hx f (qlg _ hf)) hle;have hcut:cs.drop o=(cs.drop o).take (P.cellsOf f.type)++cs.drop (o+P.cellsOf f.type):=by
          rw [←List.drop_drop,List.take_append_drop]
        refine ⟨l1++l2,⟨b1++b2,by rw [hcut];exact r1.append r2,fun b hb=>(qll.1 hb).elim (k1 b) (k2 b)⟩,hasL_append h1 h2,?_⟩
        grind
      grind
    grind
theorem seen_slice {m n:Nat} {e:TypeId} {sh:List Sh} {a:Addr} {len:Nat} (hsh:shC P n e=some sh)
    (ih:∀(cs:List Value) x,DataW.trod enc P w 0 spare held m e cs=some x→∃l,Seen w sh cs l)
    (hall:∀i,i < len→∃cs x,w.cells? 0 (a.add (i * P.cellsOf e)) (P.cellsOf e)=some cs∧DataW.trod enc P w 0 spare held m e cs=some x) :
    ∀ i,i≤len→∃(Ls:List (List V)) (vs:List Value) (bl:List Nat),Ls.length=i∧(∀L∈Ls,L.length=P.cellsOf e∧Sh.hasL sh L)∧RepL w M0 Ls.flatten vs bl∧(∀b∈bl,b < w.heap.size)∧(∀c∈vs,c.oneCell'=true)∧
      vs.length=i * P.cellsOf e∧∀j x,vs[j]? =some x→w.cell? (a.add j)=some x:=by
  intro i
  induction i with
  | zero=>exact fun _=>⟨[],[],[],rfl,by simp,.nil,by simp,by simp,by simp,by simp⟩
  | succ i ihi=>
    intro hi;obtain ⟨Ls,vs,bl,h1,h2,h3,h4,h5,h6,h7⟩:=ihi (by omega);obtain ⟨cs,x,c1,c2⟩:=hall i (by omega);obtain ⟨l,⟨bl',r1,r2⟩,hh,ho⟩:=ih cs x c2;obtain ⟨_,d1,d2⟩:=World.cells?_some c1;refine ⟨Ls++[l],vs++cs,bl++bl',by grind,?_,?_,fun b hb=>(qll.1 hb).elim (h4 b) (r2 b),fun c hc=>(qll.1 hc).elim (h5 c) (ho c),?_,?_⟩
    · intro L hL
      rcases qll.1 hL with q | q
      · grind
      · simp only [List.mem_singleton] at q
        subst q;exact ⟨r1.length.trans d1,hh⟩
    · rw [List.flatten_append,List.flatten_cons,List.flatten_nil,ql6]
      exact h3.append r1
    · grind
    · intro j x hj
      by_cases q:j < vs.length
      · grind
      · rw [qlr (by omega)] at hj
        have hjl:j - vs.length < cs.length:=by
          grind
        grind[addr_add_add]
theorem room_of {a:Addr} {sz cap:Nat} {cs:List Value} (h0:0 < cap) (hs:0 < sz) (h:w.cells? 0 (a.add ((cap - 1) * sz)) sz=some cs):Room w a.block (a.off+cap * sz):=by
  obtain ⟨_,d1,d2⟩:=World.cells?_some h;have h1:=d2 (sz - 1) (by omega);obtain ⟨x,hx⟩:∃x,cs[sz - 1]? =some x:=⟨cs[sz - 1]'(by omega),qla (by omega)⟩;rw [hx,addr_add_add] at h1;have e:(cap - 1) * sz+(sz - 1)=cap * sz - 1:=by
    have:cap * sz=(cap - 1) * sz+sz:=by rw [←Nat.succ_mul];grind
    omega
  rw [e] at h1;unfold World.cell? at h1;have hblk:(a.add (cap * sz - 1)).block=a.block:=by grind[Addr.add]
  rw [hblk] at h1;split at h1
  · rename_i c t fr hc
    split at h1
    · grind
    · have hoff:(a.add (cap * sz - 1)).off=a.off+(cap * sz - 1):=by
        grind[Addr.add]
      rw [hoff] at h1;have:=(Array.getElem?_eq_some_iff.1 h1).1;have hpos:0 < cap * sz:=Nat.mul_pos h0 hs;exact ⟨c,t,fr,hc,by omega⟩
  grind
theorem seen (hspare:∀b,spare b=true):∀(m:Nat) (t:TypeId) (cs:List Value) (x:DataW H×List MemPlace) (n:Nat) (sh:List Sh),shC P n t=some sh→DataW.trod enc P w 0 spare held m t cs=some x→∃l,Seen w sh cs l:=by
  intro m
  induction m with
  | zero=>simp[DataW.trod]
  | succ m ih =>
    intro t cs x n sh hsh h;cases n with
    | zero=>simp [shC] at hsh
    | succ n =>
      unfold shC at hsh;split at hsh
      · rename_i hu
        cases hsh;obtain ⟨b,rfl,_⟩:=DataW.trod_bool hu h;exact ⟨[.bool b],⟨[],.cons _ _ [] _ _ [] (.bool b) .nil,by simp⟩,by simp [Sh.hasL,Sh.has],by simp [Value.oneCell']⟩
      · rename_i k hu
        cases hsh;obtain ⟨b,rfl,_,hw⟩:=DataW.trod_int hu h;exact ⟨[.int k b],⟨[],.cons _ _ [] _ _ [] (.int k b) .nil,by simp⟩,by simp [Sh.hasL,Sh.has,hw],by simp [Value.oneCell']⟩
      · rename_i hu
        cases hsh;obtain ⟨b,rfl,_,hw⟩:=DataW.trod_string hu h;exact ⟨[.str b],⟨[],.cons _ _ [] _ _ [] (.str b) .nil,by simp⟩,by simp [Sh.hasL,Sh.has,hw],by simp [Value.oneCell']⟩
      · rename_i e hu
        split at hsh
        · rename_i hpos
          simp only [Option.map_eq_some_iff] at hsh;obtain ⟨she,hse,rfl⟩:=hsh;rcases DataW.trod_slice hu h with ⟨rfl,_⟩ | ⟨a,len,cap,elems,rest,m',hm,rfl,_,_,hlc,hcm,hel,hall,hrest,_⟩
          · exact ⟨[.sl []],⟨[],.cons _ _ [] _ _ [] (.sl0 none 0) .nil,by simp⟩,by simp [Sh.hasL,Sh.has],by simp [Value.oneCell']⟩
          · cases hm
            obtain ⟨Ls,vs,bl,h1,h2,h3,h4,h5,h6,h7⟩:=seen_slice hse (fun cs x hx=>ih e cs x n she hse hx) (a:=a) (len:=len) (fun i hi=>by
              grind[List.getElem?_eq_getElem,Option.bind_eq_some_iff]) len (qlu _)
            let wrap:List V→V:=fun L=>bif Program.isAggT P e then .agg L else L.headD .any
            have hwc:∀L∈Ls,(wrap L).cells=L:=by
              intro L hL;cases hg:Program.isAggT P e with
              | true=>simp [wrap,hg,V.cells]
              | false=>
                obtain ⟨s,rfl⟩:=shC_one hse hg;obtain ⟨v,rfl,hv⟩:=hasL_one (h2 L hL).2;simp only [wrap,hg,cond_false,List.headD_cons];exact has_cells hv
            have hflat:(Ls.map wrap).flatMap V.cells=Ls.flatten:=by
              clear h1 h2 h3 h6 h7
              induction Ls with
              | nil=>rfl
              | cons L Ls ih3=>grind
            have hhas:∀x∈Ls.map wrap,if Program.isAggT P e then ∃l,x=.agg l∧Sh.hasL she l else Sh.hasL she [x]:=by
              intro x hx;obtain ⟨L,hL,rfl⟩:=qma.1 hx;cases hg:Program.isAggT P e with
              | true=>grind
              | false=>
                obtain ⟨s,rfl⟩:=shC_one hse hg;obtain ⟨v,rfl,hv⟩:=hasL_one (h2 L hL).2
                grind
            have hsh:Sh.has (.sl (Program.isAggT P e) she) (.sl (Ls.map wrap)):=by
              rw [Sh.has]
              grind
            by_cases h0:len=0
            · subst h0
              have:Ls=[]:=qlx.1 h1;subst this;exact ⟨[.sl []],⟨[],.cons _ _ [] _ _ [] (.sl0 (some a) cap) .nil,by simp⟩,by simp_all[Sh.hasL,trivial],by simp [Value.oneCell']⟩
            · have hv0:∃x,vs[0]? =some x:=⟨vs[0]'(by rw [h6];exact Nat.mul_pos (by omega) hpos),by simp⟩
              obtain ⟨x0,hx0⟩:=hv0;have hc0:=h7 0 x0 hx0;have hspot:a.spot=none:=by
                unfold World.cell? at hc0;split at hc0
                · simp_all[Addr.add]
                grind
              have ha:a=⟨a.block,a.off,none⟩:=by cases a;grind
              have hblk:a.block < w.heap.size:=by simpa [Addr.add] using World.block_lt_of_cell? w _ hc0
              have hrep:Rep w M0 (.sl (Ls.map wrap)) (.slice (some ⟨a.block,a.off,none⟩) (Ls.map wrap).length cap) (a.block::bl):=by
                refine .sl (Ls.map wrap) a.block a.off cap (P.cellsOf e) vs bl ?_ ?_ hpos ?_ (by grind) h5 ?_
                · intro q
                  have:=congrArg List.length q
                  grind
                · refine ⟨by grind,?_⟩
                  by_cases hq:cap=len
                  · have hlast:=hall (len - 1) (by omega)
                    grind[List.getElem?_eq_getElem,Option.bind_eq_some_iff,room_of]
                  · obtain ⟨r1,r2⟩:=hrest (hspare _)
                    have hlast:=r2 (cap - 1 - len) (by omega);obtain ⟨y,hy⟩:∃y,rest[cap - 1 - len]? =some y:=⟨rest[cap - 1 - len]'(by omega),qla (by omega)⟩;rw [hy,Option.bind_eq_some_iff] at hlast
                    grind[room_of]
                · grind
                · intro j x hj
                  grind[Addr.add_none]
              rw [ql7,h1,←ha] at hrep;exact ⟨[.sl (Ls.map wrap)],⟨(a.block::bl)++[],.cons _ _ _ _ _ [] hrep .nil,by grind⟩,by rw [Sh.hasL];exact ⟨hsh,trivial⟩,by simp [Value.oneCell']⟩
        grind
      · rename_i fs hu
        obtain ⟨xs,m',hm,_,hlen,hxl,hall⟩:=DataW.trod_struct hu h;cases hm;have:=seen_struct (cs:=cs) (fun t cs x sh hs hx=>ih t cs x n sh hs hx) hlen fs.toList 0 sh hsh (fun f hf=>by
          obtain ⟨i,hi,hfi⟩:=List.getElem_of_mem hf;have:=hall i f (by grind)
          grind) (qlk _)
        grind
      grind
end
end Go.Vm
namespace Go.Vm
open Go Go.ChangeShapes Go.WideShapes Go.ChangeAt Go.RowKit
theorem post_of_old {H:Type} {enc:TypeId×Value→H} {P:Program} {f:Func} {s:ChangeSpec} {apart fresh handsOn again:Bool} {W W':World} {args:Array Value} {v:Value} {ds gs:List (DataW H)} {before pa pv:List MemPlace}
    (hW:DataW.Whole enc P f.params.toList s.vars apart W args.toList ds gs before)
    (hres:∀(b:Nat) (sp:Nat→Bool) (hd:Bool),DataW.TrodAll enc P W' b sp hd f.resultTypes.toList (v.resultList f.resultTypes.size) (s.fn H (ds++gs)).results [])
    (hargs:∀sp:Nat→Bool,(∀p∈before,sp p.block=true)→DataW.TrodAll enc P W' 0 sp true f.params.toList args.toList (s.fn H (ds++gs)).args pa)
    (hvars:∀sp:Nat→Bool,(∀p∈before,sp p.block=true)→DataW.TrodVars enc P W' sp s.vars (s.fn H (ds++gs)).vars pv)
    (hps:before=pa++pv) (hk:W.keptBut W' (·∈before)) (hfz:∀a,a.block < W.heap.size→W'.frozen? a=W.frozen? a)
    (hok:∀(j:Nat) (t:TypeId) (r:Value),f.resultTypes[j]? =some t→(v.resultList f.resultTypes.size)[j]? =some r→Value.okWide P W' .any 0 t r) :
    s.post enc P f apart fresh handsOn again W args v W':=by
  have hlt:∀p∈before,p.block < W.heap.size:=fun p hp=>by simpa using hW.lt p hp
  have hold:∀p∈before,(fun b=>decide (b < W.heap.size)) p.block=true:=fun p hp=>by grind
  refine ⟨ds,gs,before,[],pa,pv,hW,hres _ _ _,hargs _ hold,hvars _ hold,World.keptBut_mono (fun p hp=>⟨hp,.inr (by grind)⟩) hk,fun _=> ?_⟩;obtain ⟨_,_,_,_,_,hz,hn⟩:=hW;refine ⟨hok,_,_,([]++pa)++pv,⟨[]++pa,pv,trodAll_append (hargs _ (fun _ _=>rfl)) (hres _ _ _),hvars _ (fun _ _=>rfl),rfl,?_,?_⟩,fun p hp _=>by grind⟩
  · intro b off hp
    have hb:MemPlace.cell b off∈before:=by grind
    rw [hfz _ (hlt _ hb)];exact hz b off hb
  grind
def argSh (P:Program) (n:Nat) (t:TypeId):Option (Bool×List Sh):=(shC P n t).map fun cs=>(Program.isAggT P t,cs)
def argHas (s:Bool×List Sh) (v:V):Prop:=if s.1 then ∃l,v=.agg l∧Sh.hasL s.2 l else Sh.hasL s.2 [v]
def argsHave:List (Bool×List Sh)→List V→Prop
  | [],[]=>True
  | s::ss,v::vs=>argHas s v∧argsHave ss vs
  | _,_=>False
theorem args_cons {s:Bool×List Sh} {ss:List (Bool×List Sh)}:∀{vs:List V},argsHave (s::ss) vs→∃v vs',vs=v::vs'∧argHas s v∧argsHave ss vs'
  | v::vs,h=>⟨v,vs,rfl,h⟩
theorem args_nil:∀{vs:List V},argsHave [] vs→vs=[]
  | [],_=>rfl
theorem arg_one {s:Sh} {v:V} (h:argHas (false,[s]) v):s.has v:=by
  simp_all[argHas,Bool.false_eq_true,if_false,Sh.hasL]
theorem list_of {α:Type} {f:α→V} {Q:α→Prop}:∀{xs:List V},(∀x∈xs,∃a,x=f a∧Q a)→∃l:List α,xs=l.map f∧∀a∈l,Q a
  | [],_=>⟨[],rfl,by simp⟩
  | x::xs,h=>by
    obtain ⟨a,rfl,ha⟩:=h x (qle ..);obtain ⟨l,rfl,hl⟩:=list_of fun y hy=>h y (qlg _ hy)
    exact ⟨a::l,rfl,by grind⟩
theorem has_int {k:IntKind} {v:V} (h:(Sh.int k).has v):∃n,v=.int k n∧(Lit.int k n).wf=true:=by grind[Sh.has]
theorem has_sl {s:Sh} {v:V} {α:Type} {f:α→V} {Q:α→Prop} (h:(Sh.sl false [s]).has v) (hf:∀{x},s.has x→∃a,x=f a∧Q a):∃l:List α,v=.sl (l.map f)∧l.length≤maxLen∧∀a∈l,Q a:=by
  rw [Sh.has] at h;obtain ⟨xs,rfl,hl,hx⟩:=h;obtain ⟨l,rfl,hq⟩:=list_of (f:=f) (Q:=Q) fun x hx'=>hf (by
    have:=hx x hx'
    simp_all[Bool.false_eq_true,if_false,Sh.hasL])
  grind
section
variable {H:Type} {enc:TypeId×Value→H} {P:Program} {w:World} {spare:Nat→Bool} {held:Bool} {base:Nat}
theorem seen_arg (hspare:∀b,spare b=true) {n:Nat} {t:TypeId} {v:Value} {d:DataW H} {ps:List MemPlace} {s:Bool×List Sh} (hs:argSh P n t=some s) (hok:Value.okWide P w .any base t v) (h:DataW.Trod enc P w 0 spare held t v d ps) :
    ∃V,argHas s V∧∃bl,Rep w M0 V v bl∧∀b∈bl,b < w.heap.size:=by
  obtain ⟨fuel,h⟩:=h;unfold argSh at hs;rw [Option.map_eq_some_iff] at hs;obtain ⟨cs,hsc,rfl⟩:=hs;obtain ⟨l,⟨bl,r1,r2⟩,hh,ho⟩:=seen hspare fuel t _ _ n cs hsc h;cases hg:Program.isAggT P t with
  | true=>
    have:∃a,v=.agg a:=by
      unfold Program.isAggT at hg;cases n with
      | zero=>simp [shC] at hsc
      | succ n=>
        unfold shC at hsc
        grind[okWide_struct]
    obtain ⟨a,rfl⟩:=this;refine ⟨.agg l,by simp only [argHas,if_true];grind,bl,?_,r2⟩;exact .agg l a.toList bl r1 ho
  | false=>
    have hv:v.cells=#[v]:=by
      unfold Program.isAggT at hg;cases n with
      | zero=>simp [shC] at hsc
      | succ n=>
        unfold shC at hsc;split at hsc
        · rename_i e;obtain ⟨b,rfl⟩:=okWide_bool e hok;rfl
        · rename_i e;obtain ⟨b,rfl⟩:=okWide_int e hok;rfl
        · rename_i e;obtain ⟨b,rfl⟩:=okWide_string e hok;rfl
        · rename_i e;obtain ⟨a,b,c,rfl⟩:=okWide_slice e hok;rfl
        · grind
        grind
    rw [hv] at r1;obtain ⟨s,rfl⟩:=shC_one hsc hg;obtain ⟨u,rfl,hu⟩:=hasL_one hh;cases r1 with
    | cons _ _ b0 _ _ b1 q1 q2=>
      refine ⟨u,by simp_all[argHas,Bool.false_eq_true,if_false],b0,q1,fun b hb=>r2 b (by grind)⟩
theorem seen_args (hspare:∀b,spare b=true) {n:Nat} {base:Nat}:∀{ts:List TypeId} {vs:List Value} {ds:List (DataW H)} {ps:List MemPlace} {ss:List (Bool×List Sh)},DataW.TrodAll enc P w 0 spare held ts vs ds ps→ts.map (argSh P n)=ss.map some→
    (∀(j:Nat) t v,ts[j]? =some t→vs[j]? =some v→Value.okWide P w .any base t v)→
    ds.length=ts.length∧∃Vs:List V,argsHave ss Vs∧Vs.length=vs.length∧∀(i:Nat) (V:V),Vs[i]? =some V→∃v bl,vs[i]? =some v∧Rep w M0 V v bl∧∀b∈bl,b < w.heap.size
  | [],vs,ds,ps,ss,h,hs,_=>by
    obtain ⟨rfl,rfl,rfl⟩:=trodAll_nil h;cases ss with
    | nil=>exact ⟨rfl,[],trivial,rfl,by simp⟩
    | cons a b=>grind
  | t ::ts,vs,ds,ps,ss,h,hs,hok=>by
    obtain ⟨v,vs',d,ds',p,q,rfl,rfl,rfl,h1,h2⟩:=trodAll_cons h;cases ss with
    | nil=>grind
    | cons s ss=>
      rw [List.map_cons,List.map_cons,List.cons.injEq] at hs;obtain ⟨hl,Vs,k1,k2,k3⟩:=seen_args hspare h2 hs.2 fun j t v e1 e2=>hok (j+1) t v (by grind) (by grind)
      obtain ⟨V,g1,bl,g2,g3⟩:=seen_arg hspare hs.1 (hok 0 t v rfl rfl) h1;refine ⟨by grind,V::Vs,⟨g1,k1⟩,by grind,?_⟩
      grind
theorem trodAll_below (hl:laidOutB P=true) {W W':World} {sp:Nat→Bool} (hb:Below W.heap.size W W'):∀{ts:List TypeId} {vs:List Value} {ds:List (DataW H)} {ps:List MemPlace},(∀t∈ts,P.readableRec t=true∧t < P.types.size)→
    DataW.TrodAll enc P W 0 (fun _=>true) true ts vs ds ps→(∀x∈ps,x.block < W.heap.size)→(∀x∈ps,sp x.block=true)→DataW.TrodAll enc P W' 0 sp true ts vs ds ps
  | [],vs,ds,ps,_,h,_,_=>by
    obtain ⟨rfl,rfl,rfl⟩:=trodAll_nil h;rfl
  | t ::ts,vs,ds,ps,hr,h,hlt,hs=>by
    obtain ⟨v,vs',d,ds',p,q,rfl,rfl,rfl,h1,h2⟩:=trodAll_cons h;have h0:=hr t (qle ..);exact trodAll_cons_mk (WideElems.Trod_stays hl h0.1 h0.2 h1 (fun x hx=>hb.same (hlt x (qmc _ hx))) (fun x hx=>hs x (qmc _ hx)))
      (trodAll_below hl hb (fun t ht=>hr t (qlg _ ht)) h2 (fun x hx=>hlt x (qmk _ hx)) fun x hx=>hs x (qmk _ hx))
theorem law_contract {f:FuncId} {fn:Func} {s:ChangeSpec} {apart fresh handsOn again:Bool} {bt:TypeId} (n:Nat) (ss:List (Bool×List Sh)) (hlaid:laidOutB P=true) (hrec:∀t∈fn.params.toList,P.readableRec t=true∧t < P.types.size)
    (hss:fn.params.toList.map (argSh P n)=ss.map some) (hres:fn.resultTypes=#[bt]) (hbt:P.underlying bt=some .bool) (hvars:s.vars=[])
    (hfn:∀ds:List (DataW H),ds.length=fn.params.toList.length→s.fn H ds={results:=[.lit (.bool true)],args:=ds})
    (hcon:∀vs,argsHave ss vs→Con P f vs [] (.bool true) [])
    {pre:World→Prop} (htab:∀W,pre W→TabsIn W (tabsOf P))
    {W:World} (hpre:pre W) {base:Nat} {args:Array Value} {ds gs:List (DataW H)} {before:List MemPlace}
    (hval:∀(j:Nat) t v,fn.params[j]? =some t→args[j]? =some v→Value.okWide P W .any base t v)
    (hW:DataW.Whole enc P fn.params.toList s.vars apart W args.toList ds gs before) :
    Calls P f args W fun e W'=>∃v,e=.returned v∧s.post enc P fn apart fresh handsOn again W args v W':=by
  have hW':=hW;obtain ⟨p,q,hA,hV,hpq,hfz,hnd⟩:=hW;rw [hvars] at hV;obtain ⟨rfl,rfl⟩:=trodVars_none hV;obtain ⟨hdl,Vs,k1,k2,k3⟩:=seen_args (fun _=>rfl) (n:=n) (base:=base) hA hss fun j t v e1 e2=>hval j t v (by grind) (by grind)
  have hsp:=hfn ds hdl;rw [ql6] at hpq;refine ((hcon Vs k1).2 W args M0 (fun _=>none) (fun b=>b < W.heap.size) ?_).mono ?_
  · refine ⟨by grind,fun i V hi=> ?_,by simp,fun _ _=>rfl,by simp,fun p hp=>⟨rfl,htab W hpre p hp⟩⟩
    obtain ⟨v,bl,g1,g2,g3⟩:=k3 i V hi;refine ⟨bl,?_,fun b hb=>⟨rfl,g3 b hb⟩⟩
    simp_all
  · rintro e W' ⟨v,μ',ow',rfl,hout⟩
    obtain ⟨bl,rr,_⟩:=hout.rep;obtain rfl:=rr.bool_inv;have hfr:=hout.frm;have hbelow:Below W.heap.size W W':=⟨hfr.os,hfr.tape,hfr.output,hfr.size,fun k hk=>hfr.old k hk (by simp)⟩;have hlt:∀x∈before,x.block < W.heap.size:=fun x hx=>by simpa using hW'.lt x hx
    refine ⟨_,rfl,post_of_old (pa:=before) (pv:=[]) hW' ?_ ?_ ?_ (by simp) ?_ hfr.ice ?_⟩
    · intro b sp hd
      rw [ql6,hsp,hres];exact trodAll_cons_mk (shut_bool hbt _) trodAll_mk0
    · grind[trodAll_below]
    · intro sp _
      rw [ql6,hsp,hvars];rfl
    · refine ⟨hfr.os,hfr.output,fun i hi=> ?_⟩
      rw [hfr.old i hi (by simp)]
      grind
    · exact ok_one hres rfl (okWide_bool_mk hbt _)
end
end Go.Vm
