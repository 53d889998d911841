/- The value machine, part 1. -/
import Derived.WalkKit
import Derived.Laws.StructEq
set_option linter.unusedSimpArgs false
set_option linter.unusedVariables false
set_option linter.defProp false
namespace Go.Vm
def qla:=@List.getElem?_eq_getElem
def qlb:=@List.mem_of_getElem?
def qlc:=@List.getElem?_eq_some_iff
def qld:=@List.getD_eq_getElem?_getD
def qle:=@List.mem_cons_self
def qlf:=@Int.eq_ofNat_of_zero_le
def qlg:=@List.mem_cons_of_mem
def qlh:=@List.all_eq_true
def qli:=@List.mem_singleton
def qlj:=@List.getElem?_set_self
def qlk:=@Nat.zero_le
def qll:=@List.mem_append
def qlm:=@List.length_append
def qln:=@List.length_set
def qlo:=@Bool.and_eq_true
def qlp:=@List.getElem?_eq_none
def qlq:=@List.getElem?_set_ne
def qlr:=@List.getElem?_append_right
def qls:=@List.length_take
def qlt:=@List.drop_of_length_le
def qlu:=@Nat.le_refl
def qlv:=@List.getElem?_append_left
def qlw:=@List.append_assoc
def qlx:=@List.length_eq_zero_iff
def qly:=@Nat.lt_or_ge
def qlz:=@List.flatMap_cons
def ql0:=@List.mem_cons
def ql1:=@List.map_append
def ql2:=@Int.toNat_natCast
def ql3:=@List.mem_of_mem_take
def ql4:=@Nat.le_trans
def ql5:=@Nat.le_of_ble_eq_true
def ql6:=@List.append_nil
def ql7:=@List.length_map
def ql8:=@Nat.mul_le_mul_right
def ql9:=@Array.getD_eq_getD_getElem?
def qma:=@List.mem_map
def qmb:=@Option.isSome_iff_exists
def qmc:=@List.mem_append_left
def qmd:=@List.filter_cons
def qme:=@List.take_add_one
def qmf:=@List.length_cons
def qmg:=@List.take_of_length_le
def qmh:=@List.length_drop
def qmi:=@List.mem_range
def qmj:=@Nat.lt_of_lt_of_le
def qmk:=@List.mem_append_right
def qml:=@List.contains_iff_mem
end Go.Vm
namespace Go.Vm
open Go
inductive V where
  | int (k:IntKind) (n:Int)
  | bool (b:Bool)
  | str (s:ByteArray)
  | nsl
  | sl (xs:List V)
  | ref (id:Nat)
  | sub (id lo n:Nat)
  | ptr (id i off:Nat)
  | pv (xs:List V) (i off:Nat)
  | npt
  | fn (f:FuncId) (cs:List V)
  | nfn
  | agg (cs:List V)
  | tup (vs:List V)
  | opt (g:Bool) (v:V)
  | any
  deriving Inhabited
def V.cells:V→List V
  | .agg cs=>cs
  | v=>[v]
structure Loc where
  b:Nat
  off:Nat
  sz:Nat
  n:Nat
  cap:Nat
  real:Bool
inductive Hd (l:Loc):Value→Prop
  | real (h:l.real=true):Hd l (.slice (some ⟨l.b,l.off,none⟩) l.n l.cap)
  | nil (a:Option Addr) (h:l.real=false) (h0:l.n=0):Hd l (.slice a 0 0)
def Row (w:World) (b off:Nat) (vs:List Value):Prop:=∀j x,vs[j]? =some x→w.cell? ⟨b,off+j,none⟩=some x
def Room (w:World) (b n:Nat):Prop:=∃cs t fr,w.heap[b]? =some (.cells cs t fr)∧n≤cs.size
theorem Room.keep {w w':World} {b n:Nat} (h:Room w b n) (hb:w'.heap[b]? =w.heap[b]?):Room w' b n:=by
  obtain ⟨cs,t,fr,h1,h2⟩:=h;exact ⟨cs,t,fr,hb.trans h1,h2⟩
theorem Room.le {w:World} {b n m:Nat} (h:Room w b n) (hm:m≤n):Room w b m:=by
  obtain ⟨cs,t,fr,h1,h2⟩:=h;exact ⟨cs,t,fr,h1,ql4 hm h2⟩
def Live (w:World) (b:Nat):Prop:=∃c t,w.heap[b]? =some (.cells c t (0,0))
theorem Live.lt {w:World} {b:Nat} (h:Live w b):b < w.heap.size:=by
  obtain ⟨c,t,e⟩:=h
  grind
theorem Live.keep {w w':World} {b:Nat} (h:Live w b) (hb:w'.heap[b]? =w.heap[b]?):Live w' b:=by
  obtain ⟨c,t,e⟩:=h;exact ⟨c,t,hb.trans e⟩
theorem Live.setRow {w:World} {g b:Nat} {cs:Array Value} (h:Live w b):Live (w.setRow g cs) b:=by
  obtain ⟨c,t,e⟩:=h
  by_cases q:b=g
  · subst q;exact ⟨cs,t,setRow_heap w b c cs t _ e⟩
  · exact ⟨c,t,(setRow_other w g b cs q).trans e⟩
def M0:Nat→Option Loc:=fun _=>none
mutual
inductive Rep (w:World):(Nat→Option Loc)→V→Value→List Nat→Prop
  | int {μ:Nat→Option Loc} (k:IntKind) (n:Int):Rep w μ (.int k n) (.int k n) []
  | bool {μ:Nat→Option Loc} (b:Bool):Rep w μ (.bool b) (.bool b) []
  | str {μ:Nat→Option Loc} (s:ByteArray):Rep w μ (.str s) (.string s) []
  | nsl {μ:Nat→Option Loc} (a:Option Addr):Rep w μ .nsl (.slice a 0 0) []
  | sl0 {μ:Nat→Option Loc} (a:Option Addr) (c:Nat):Rep w μ (.sl []) (.slice a 0 c) []
  | sl {μ:Nat→Option Loc} (xs:List V) (b off c sz:Nat) (vs:List Value) (bl:List Nat) (h0:xs≠[]) (hc:xs.length≤c∧Room w b (off+c * sz)) (hs:0 < sz)
      (hz:∀x∈xs,x.cells.length=sz) (hl:RepL w M0 (xs.flatMap V.cells) vs bl) (h1:∀x∈vs,x.oneCell'=true) (hr:Row w b off vs) :
      Rep w μ (.sl xs) (.slice (some ⟨b,off,none⟩) xs.length c) (b::bl)
  | ref {μ:Nat→Option Loc} (id:Nat) (l:Loc) (v:Value) (h:μ id=some l) (hd:Hd l v):Rep w μ (.ref id) v []
  | sub {μ:Nat→Option Loc} (id lo n:Nat) (l:Loc) (h:μ id=some l) (hr:l.real=true) (hn:lo+n≤l.n) :
      Rep w μ (.sub id lo n) (.slice (some ⟨l.b,l.off+lo * l.sz,none⟩) n (l.cap - lo)) []
  | sub0 {μ:Nat→Option Loc} (id lo:Nat) (l:Loc) (a:Option Addr) (h:μ id=some l) (hn:lo≤l.n):Rep w μ (.sub id lo 0) (.slice a 0 0) []
  | ptr {μ:Nat→Option Loc} (id i off:Nat) (l:Loc) (h:μ id=some l) (hi:i < l.n):Rep w μ (.ptr id i off) (.pointer (some ⟨l.b,l.off+(i * l.sz+off),none⟩)) []
  | pv {μ:Nat→Option Loc} (xs:List V) (i off b o sz:Nat) (vs:List Value) (bl:List Nat) (hi:i < xs.length) (hs:0 < sz)
      (hz:∀x∈xs,x.cells.length=sz) (hl:RepL w M0 (xs.flatMap V.cells) vs bl) (h1:∀x∈vs,x.oneCell'=true) (hr:Row w b o vs) :
      Rep w μ (.pv xs i off) (.pointer (some ⟨b,o+(i * sz+off),none⟩)) (b::bl)
  | npt {μ:Nat→Option Loc}:Rep w μ .npt (.pointer none) []
  | fn {μ:Nat→Option Loc} (f:FuncId) (cs:List V) (vs:List Value) (bl:List Nat) (hl:RepL w μ cs vs bl):Rep w μ (.fn f cs) (.func (.func f) #[] vs.toArray) bl
  | nfn {μ:Nat→Option Loc}:Rep w μ .nfn .nilFunc []
  | agg {μ:Nat→Option Loc} (cs:List V) (vs:List Value) (bl:List Nat) (hl:RepL w μ cs vs bl) (h1:∀x∈vs,x.oneCell'=true):Rep w μ (.agg cs) (.agg vs.toArray) bl
  | tup {μ:Nat→Option Loc} (cs:List V) (vs:List Value) (bl:List Nat) (hl:RepL w μ cs vs bl):Rep w μ (.tup cs) (.tuple vs.toArray) bl
  | optT {μ:Nat→Option Loc} (v:V) (x:Value) (bl:List Nat) (h:Rep w μ v x bl):Rep w μ (.opt true v) x bl
  | optF {μ:Nat→Option Loc} (v:V):Rep w μ (.opt false v) undef []
  | any {μ:Nat→Option Loc} (x:Value):Rep w μ .any x []
inductive RepL (w:World):(Nat→Option Loc)→List V→List Value→List Nat→Prop
  | nil {μ:Nat→Option Loc}:RepL w μ [] [] []
  | cons {μ:Nat→Option Loc} (v:V) (x:Value) (bl:List Nat) (vs:List V) (xs:List Value) (bl':List Nat) (h:Rep w μ v x bl) (ht:RepL w μ vs xs bl') :
      RepL w μ (v::vs) (x::xs) (bl++bl')
end
def MLe (μ μ':Nat→Option Loc):Prop:=∀id l,μ id=some l→μ' id=some l
theorem MLe.zero (μ:Nat→Option Loc):MLe M0 μ:=fun _ _ h=>by cases h
theorem MLe.refl (μ:Nat→Option Loc):MLe μ μ:=fun _ _ h=>h
theorem MLe.trans {a b c:Nat→Option Loc} (h:MLe a b) (k:MLe b c):MLe a c:=fun id l e=>k id l (h id l e)
theorem Row.keep {w w':World} {b off:Nat} {vs:List Value} (h:Row w b off vs) (hb:w'.heap[b]? =w.heap[b]?):Row w' b off vs:=by
  intro j x hj;have:=h j x hj
  grind[World.cell?]
mutual
theorem Rep.keep {w w':World}:∀{μ μ':Nat→Option Loc} (_:MLe μ μ') {v:V} {x:Value} {bl:List Nat},Rep w μ v x bl→(∀b∈bl,w'.heap[b]? =w.heap[b]?)→Rep w' μ' v x bl
  | _,_,hm,_,_,_,.int k n,_=>.int k n
  | _,_,hm,_,_,_,.bool b,_=>.bool b
  | _,_,hm,_,_,_,.str s,_=>.str s
  | _,_,hm,_,_,_,.nsl a,_=>.nsl a
  | _,_,hm,_,_,_,.sl0 a c,_=>.sl0 a c
  | _,_,hm,_,_,_,.sl xs b off c sz vs bl h0 hc hs hz hl h1 hr,hb=>
    .sl xs b off c sz vs bl h0 ⟨hc.1,hc.2.keep (hb b (qle ..))⟩ hs hz (RepL.keep (MLe.refl M0) hl fun x hx=>hb x (qlg _ hx)) h1 (hr.keep (hb b (qle ..)))
  | _,_,hm,_,_,_,.ref id l v h hd,_=>.ref id l v (hm _ _ h) hd
  | _,_,hm,_,_,_,.sub id lo n l h hr hn,_=>.sub id lo n l (hm _ _ h) hr hn
  | _,_,hm,_,_,_,.sub0 id lo l a h hn,_=>.sub0 id lo l a (hm _ _ h) hn
  | _,_,hm,_,_,_,.ptr id i off l h hi,_=>.ptr id i off l (hm _ _ h) hi
  | _,_,hm,_,_,_,.pv xs i off b o sz vs bl hi hs hz hl h1 hr,hb=>
    .pv xs i off b o sz vs bl hi hs hz (RepL.keep (MLe.refl M0) hl fun x hx=>hb x (qlg _ hx)) h1 (hr.keep (hb b (qle ..)))
  | _,_,hm,_,_,_,.npt,_=>.npt
  | _,_,hm,_,_,_,.fn f cs vs bl hl,hb=>.fn f cs vs bl (RepL.keep hm hl hb)
  | _,_,hm,_,_,_,.nfn,_=>.nfn
  | _,_,hm,_,_,_,.agg cs vs bl hl h1,hb=>.agg cs vs bl (RepL.keep hm hl hb) h1
  | _,_,hm,_,_,_,.tup cs vs bl hl,hb=>.tup cs vs bl (RepL.keep hm hl hb)
  | _,_,hm,_,_,_,.optT v x bl h,hb=>.optT v x bl (Rep.keep hm h hb)
  | _,_,hm,_,_,_,.optF v,_=>.optF v
  | _,_,hm,_,_,_,.any x,_=>.any x
theorem RepL.keep {w w':World}:∀{μ μ':Nat→Option Loc} (_:MLe μ μ') {vs:List V} {xs:List Value} {bl:List Nat},RepL w μ vs xs bl→(∀b∈bl,w'.heap[b]? =w.heap[b]?)→RepL w' μ' vs xs bl
  | _,_,hm,_,_,_,.nil,_=>.nil
  | _,_,hm,_,_,_,.cons v x bl vs xs bl' h ht,hb=>
    .cons v x bl vs xs bl' (Rep.keep hm h fun b m=>hb b (qmc _ m)) (RepL.keep hm ht fun b m=>hb b (qmk _ m))
end
theorem RepL.length {w:World} {μ:Nat→Option Loc}:∀{vs:List V} {xs:List Value} {bl:List Nat},RepL w μ vs xs bl→vs.length=xs.length
  | _,_,_,.nil=>rfl
  | _,_,_,.cons _ _ _ _ _ _ _ ht=>by simp [ht.length]
theorem RepL.append {w:World} {μ:Nat→Option Loc}:∀{vs:List V} {xs:List Value} {bl:List Nat} {vs':List V} {xs':List Value} {bl':List Nat},
    RepL w μ vs xs bl→RepL w μ vs' xs' bl'→RepL w μ (vs++vs') (xs++xs') (bl++bl')
  | _,_,_,_,_,_,.nil,k=>k
  | _,_,_,_,_,_,.cons v x bl vs xs bl' h ht,k=>by
    rw [qlw];exact .cons v x bl _ _ _ h (ht.append k)
theorem RepL.split {w:World} {μ:Nat→Option Loc}:∀(vs vs':List V) {xs:List Value} {bl:List Nat},RepL w μ (vs++vs') xs bl→
    ∃xs1 xs2 b1 b2,xs=xs1++xs2∧bl=b1++b2∧RepL w μ vs xs1 b1∧RepL w μ vs' xs2 b2
  | [],_,xs,bl,h=>⟨[],xs,[],bl,rfl,rfl,.nil,h⟩
  | v::vs,vs',_,_,.cons _ x bl _ xs bl' h ht=>by
    obtain ⟨xs1,xs2,b1,b2,rfl,rfl,h1,h2⟩:=RepL.split vs vs' ht;exact ⟨x::xs1,xs2,bl++b1,b2,rfl,by simp,.cons _ _ _ _ _ _ h h1,h2⟩
theorem RepL.get {w:World} {μ:Nat→Option Loc}:∀{vs:List V} {xs:List Value} {bl:List Nat},RepL w μ vs xs bl→∀(i:Nat) (v:V),vs[i]? =some v→
    ∃x b,xs[i]? =some x∧Rep w μ v x b∧(∀y∈b,y∈bl)
  | _,_,_,.nil,i,v,h=>by grind
  | _,_,_,.cons _ x bl _ xs bl' h ht,0,v,e=>by
    grind
  | _,_,_,.cons _ x bl _ xs bl' h ht,i+1,v,e=>by
    obtain ⟨y,b,h1,h2,h3⟩:=ht.get i v (by grind)
    grind
theorem Row.lt {w:World} {b off:Nat} {x:Value} {vs:List Value} (h:Row w b off (x::vs)):b < w.heap.size:=by
  have:=h 0 x rfl;exact block_lt_of_cell this
theorem flatMap_cells_ne {xs:List V} {sz:Nat} (h0:xs≠[]) (hs:0 < sz) (hz:∀x∈xs,x.cells.length=sz):xs.flatMap V.cells≠[]:=by
  cases xs with
  | nil=>grind
  | cons x xs=>
    intro h
    simp_all
mutual
theorem Rep.lt {w:World}:∀{μ:Nat→Option Loc} {v:V} {x:Value} {bl:List Nat},Rep w μ v x bl→∀b∈bl,b < w.heap.size
  | _,_,_,_,.sl xs b off c sz vs bl h0 hc hs hz hl h1 hr,y,hy=>by
    cases ql0.1 hy with
    | inl e=>
      subst e;have hne:=flatMap_cells_ne h0 hs hz;have hlen:=hl.length;cases vs with
      | nil=>exact absurd (qlx.1 hlen) hne
      | cons v vs=>exact hr.lt
    | inr e=>exact RepL.lt hl y e
  | _,_,_,_,.pv xs i off b o sz vs bl hi hs hz hl h1 hr,y,hy=>by
    cases ql0.1 hy with
    | inl e=>
      subst e;have hne:=flatMap_cells_ne (xs:=xs) (by intro e;subst e;simp at hi) hs hz;have hlen:=hl.length;cases vs with
      | nil=>exact absurd (qlx.1 hlen) hne
      | cons v vs=>exact hr.lt
    | inr e=>exact RepL.lt hl y e
  | _,_,_,_,.fn f cs vs bl hl,y,hy=>RepL.lt hl y hy
  | _,_,_,_,.agg cs vs bl hl h1,y,hy=>RepL.lt hl y hy
  | _,_,_,_,.tup cs vs bl hl,y,hy=>RepL.lt hl y hy
  | _,_,_,_,.optT v x bl h,y,hy=>Rep.lt h y hy
  | _,_,_,_,.int ..,y,hy | _,_,_,_,.bool ..,y,hy | _,_,_,_,.str ..,y,hy | _,_,_,_,.nsl ..,y,hy | _,_,_,_,.sl0 ..,y,hy
  | _,_,_,_,.ref ..,y,hy | _,_,_,_,.sub ..,y,hy | _,_,_,_,.sub0 ..,y,hy | _,_,_,_,.ptr ..,y,hy | _,_,_,_,.npt,y,hy
  | _,_,_,_,.nfn,y,hy | _,_,_,_,.optF ..,y,hy | _,_,_,_,.any ..,y,hy=>by simp at hy
theorem RepL.lt {w:World}:∀{μ:Nat→Option Loc} {vs:List V} {xs:List Value} {bl:List Nat},RepL w μ vs xs bl→∀b∈bl,b < w.heap.size
  | _,_,_,_,.nil,y,hy=>by simp at hy
  | _,_,_,_,.cons v x bl vs xs bl' h ht,y,hy=>(qll.1 hy).elim (Rep.lt h y) (RepL.lt ht y)
end
end Go.Vm
namespace Go.Vm
open Go
inductive Kd where
  | flat | deep | shal | mix | thin | part
  deriving DecidableEq,Inhabited
inductive Blk where
  | dead
  | arr (xs:List V) (k:Kd)
  | box (x:V) (k:Kd)
  | hid (j n:Nat)
  deriving Inhabited
def Kd.mu (k:Kd) (μ:Nat→Option Loc):Nat→Option Loc:=match k with | .mix | .part=>μ | _=>M0
def Kd.nm:Kd→Bool | .mix | .part=>false | _=>true
@[simp] theorem nm_flat:Kd.nm .flat=true:=rfl
@[simp] theorem nm_deep:Kd.nm .deep=true:=rfl
@[simp] theorem nm_shal:Kd.nm .shal=true:=rfl
@[simp] theorem nm_thin:Kd.nm .thin=true:=rfl
@[simp] theorem nm_mix:Kd.nm .mix=false:=rfl
@[simp] theorem nm_part:Kd.nm .part=false:=rfl
structure St where
  env:List (Nat×V)
  O:List Blk
  vw:Bool
  n:Nat
  mask:Nat
def look (t:Nat):List (Nat×V)→V
  | []=>.any
  | (k,v)::l=>bif Nat.beq t k then v else look t l
def St.get (s:St) (t:Nat):V:=look t s.env
structure Cx where
  w0:World
  own0:Nat→Prop
  vis:Nat→Prop
  mu0:Nat→Option Loc:=M0
  tabs:List (Nat×(Array Value→Prop)):=[]
abbrev Ow:=Nat→Option (Bool×Nat)
def VOK (cx:Cx) (ow:Ow) (vw:Bool) (b:Nat):Prop:=
  (ow b=none∨(vw=true∧∃id,ow b=some (false,id)))∧(cx.vis b∨cx.own0 b∨cx.w0.heap.size≤b)
def KdOK (cx:Cx) (ow:Ow) (vw:Bool) (id:Nat) (bl:List Nat):Kd→Prop
  | .flat | .thin=>bl=[]
  | .deep | .part=>bl.Nodup∧∀b∈bl,ow b=some (false,id)
  | .shal | .mix=>∀b∈bl,VOK cx ow vw b
structure Cells (w:World) (μ:Nat→Option Loc) (l:Loc) (xs:List V) (bl:List Nat):Prop where
  le:l.n≤l.cap
  sz:0 < l.sz
  each:∀x∈xs,x.cells.length=l.sz
  row:∃c t vs,w.heap[l.b]? =some (.cells c t (0,0))∧l.off+l.cap * l.sz≤c.size∧RepL w μ (xs.flatMap V.cells) vs bl∧
    (∀v∈vs,v.oneCell'=true)∧∀j x,vs[j]? =some x→c[l.off+j]? =some x
def RowOK (cx:Cx) (w:World) (μ:Nat→Option Loc) (ow:Ow) (vw:Bool) (id:Nat) (xs:List V) (k:Kd):Prop:=
  ∃ l,μ id=some l∧l.n=xs.length∧
    ((l.real=false∧xs=[])∨(l.real=true∧ow l.b=some (true,id)∧∃bl,Cells w (k.mu μ) l xs bl∧KdOK cx ow vw id bl k∧(k≠.thin→xs≠[])))
def BlkOK (cx:Cx) (w:World) (μ:Nat→Option Loc) (ow:Ow) (vw:Bool) (id:Nat):Blk→Prop
  | .dead=>True
  | .arr xs k=>RowOK cx w μ ow vw id xs k
  | .box x k=>RowOK cx w μ ow vw id [x] k
  | .hid j n=>∃l l',μ id=some l∧μ j=some l'∧l.n=n∧0 < n∧n≤l'.n∧l.real=true∧l'.real=true∧l'.b=l.b∧l'.off=l.off∧l'.sz=l.sz∧l'.cap=l.cap
structure Frame (cx:Cx) (w:World):Prop where
  size:cx.w0.heap.size≤w.heap.size
  old:∀b,b < cx.w0.heap.size→¬cx.own0 b→w.heap[b]? =cx.w0.heap[b]?
  os:w.os=cx.w0.os
  tape:w.tape=cx.w0.tape
  output:w.output=cx.w0.output
  ice:∀x,x.block < cx.w0.heap.size→w.frozen? x=cx.w0.frozen? x
  tab:∀p∈cx.tabs,¬cx.own0 p.1∧∃c t fr,cx.w0.heap[p.1]? =some (.cells c t fr)∧p.2 c
structure Rel (cx:Cx) (s:St) (a:Act) (w:World) (μ:Nat→Option Loc) (ow:Ow):Prop where
  dfr:a.defers=[]
  sz:a.tmps.size=s.n
  env:∀t,∃bl,Rep w μ (s.get t) (a.tmps.getD t undef) bl∧∀b∈bl,VOK cx ow s.vw b
  blk:∀id bk,s.O[id]? =some bk→BlkOK cx w μ ow s.vw id bk
  dom:∀id,s.O.length≤id→μ id=none
  owl:∀b,ow b≠none→Live w b
  own:∀b,ow b≠none→cx.own0 b∨cx.w0.heap.size≤b
  frm:Frame cx w
  mu:MLe cx.mu0 μ
theorem VOK.mono {cx:Cx} {ow ow':Ow} {vw vw':Bool} {b:Nat} (h:VOK cx ow vw b) (ho:ow' b=ow b) (hv:vw=true→vw'=true):VOK cx ow' vw' b:=by
  refine ⟨?_,h.2⟩;rw [ho];exact h.1.imp id fun ⟨e,k⟩=>⟨hv e,k⟩
theorem VOK.not_root {cx:Cx} {ow:Ow} {vw:Bool} {b id:Nat} (h:VOK cx ow vw b) (hr:ow b=some (true,id)):False:=by
  rcases h.1 with e | ⟨_,i,e⟩<;>simp [hr] at e
theorem Cells.keep {w w':World} {μ μ':Nat→Option Loc} {l:Loc} {xs:List V} {bl:List Nat} (h:Cells w μ l xs bl) (hm:MLe μ μ')
    (hb:w'.heap[l.b]? =w.heap[l.b]?) (hbl:∀b∈bl,w'.heap[b]? =w.heap[b]?):Cells w' μ' l xs bl:=by
  obtain ⟨h1,h2,h3,c,t,vs,h4,h5,h6,h7,h8⟩:=h;exact ⟨h1,h2,h3,c,t,vs,hb.trans h4,h5,h6.keep hm hbl,h7,h8⟩
theorem Cells.lt {w:World} {μ:Nat→Option Loc} {l:Loc} {xs:List V} {bl:List Nat} (h:Cells w μ l xs bl):l.b < w.heap.size:=by
  obtain ⟨_,_,_,c,t,vs,h4,_⟩:=h
  grind
theorem KdOK.mono {cx:Cx} {ow ow':Ow} {vw vw':Bool} {id:Nat} {bl:List Nat} {k:Kd} (h:KdOK cx ow vw id bl k)
    (ho:∀b∈bl,ow' b=ow b) (hv:vw=true→vw'=true):KdOK cx ow' vw' id bl k:=by
  cases k with
  | flat=>exact h
  | thin=>exact h
  | deep=>exact ⟨h.1,fun b hb=>(ho b hb).trans (h.2 b hb)⟩
  | shal=>exact fun b hb=>(h b hb).mono (ho b hb) hv
  | mix=>exact fun b hb=>(h b hb).mono (ho b hb) hv
  | part=>exact ⟨h.1,fun b hb=>(ho b hb).trans (h.2 b hb)⟩
theorem Kd.mu_mono {k:Kd} {μ μ':Nat→Option Loc} (h:MLe μ μ'):MLe (k.mu μ) (k.mu μ'):=by
  cases k<;>first | exact h | exact MLe.refl _
theorem Kd.mu_le (k:Kd) (μ:Nat→Option Loc):MLe (k.mu μ) μ:=by
  cases k<;>first | exact MLe.refl _ | exact MLe.zero _
theorem RowOK.keep {cx:Cx} {w w':World} {μ μ':Nat→Option Loc} {ow ow':Ow} {vw vw':Bool} {id:Nat} {xs:List V} {k:Kd}
    (h:RowOK cx w μ ow vw id xs k) (hm:MLe μ μ') (hv:vw=true→vw'=true)
    (hb:∀b,b < w.heap.size→(ow b=some (true,id)∨ow b=some (false,id)∨VOK cx ow vw b)→w'.heap[b]? =w.heap[b]?∧ow' b=ow b):RowOK cx w' μ' ow' vw' id xs k:=by
  obtain ⟨l,h1,h2,h3⟩:=h;refine ⟨l,hm _ _ h1,h2,?_⟩;rcases h3 with h3 | ⟨h3,h4,bl,h5,h6,h7⟩
  · grind
  · have hl:=hb l.b h5.lt (.inl h4)
    have hin:∀b∈bl,w'.heap[b]? =w.heap[b]?∧ow' b=ow b:=by
      intro b hbb;have hlt:b < w.heap.size:=by
        obtain ⟨_,_,_,c,t,vs,_,_,hr,_⟩:=h5;exact hr.lt b hbb
      cases k with
      | flat=>have e:bl=[]:=h6;grind
      | thin=>have e:bl=[]:=h6;grind
      | deep=>exact hb b hlt (.inr (.inl (h6.2 b hbb)))
      | shal=>exact hb b hlt (.inr (.inr (h6 b hbb)))
      | mix=>exact hb b hlt (.inr (.inr (h6 b hbb)))
      | part=>exact hb b hlt (.inr (.inl (h6.2 b hbb)))
    exact .inr ⟨h3,hl.2.trans h4,bl,h5.keep (Kd.mu_mono hm) hl.1 fun b hbb=>(hin b hbb).1,h6.mono (fun b hbb=>(hin b hbb).2) hv,h7⟩
theorem BlkOK.keep {cx:Cx} {w w':World} {μ μ':Nat→Option Loc} {ow ow':Ow} {vw vw':Bool} {id:Nat} {bk:Blk}
    (h:BlkOK cx w μ ow vw id bk) (hm:MLe μ μ') (hv:vw=true→vw'=true)
    (hb:∀b,b < w.heap.size→(ow b=some (true,id)∨ow b=some (false,id)∨VOK cx ow vw b)→w'.heap[b]? =w.heap[b]?∧ow' b=ow b):BlkOK cx w' μ' ow' vw' id bk:=by
  cases bk with
  | dead=>trivial
  | arr xs k=>exact RowOK.keep h hm hv hb
  | box x k=>exact RowOK.keep h hm hv hb
  | hid j n=>obtain ⟨l,l',h1,h2,h3⟩:=h;exact ⟨l,l',hm _ _ h1,hm _ _ h2,h3⟩
structure Ext (w w':World):Prop where
  size:w.heap.size≤w'.heap.size
  old:∀b,b < w.heap.size→w'.heap[b]? =w.heap[b]?
  os:w'.os=w.os
  tape:w'.tape=w.tape
  output:w'.output=w.output
  ice:∀x,x.block < w.heap.size→w'.frozen? x=w.frozen? x
theorem Ext.refl (w:World):Ext w w:=⟨qlu _,fun _ _=>rfl,rfl,rfl,rfl,fun _ _=>rfl⟩
theorem Ext.trans {a b c:World} (h:Ext a b) (k:Ext b c):Ext a c:=
  ⟨ql4 h.size k.size,fun i hi=>(k.old i (qmj hi h.size)).trans (h.old i hi),k.os.trans h.os,k.tape.trans h.tape,k.output.trans h.output,fun x hx=>(k.ice x (qmj hx h.size)).trans (h.ice x hx)⟩
theorem Ext.alloc (w:World) (c:Array Value) (t:TypeId):Ext w (w.alloc (.cells c t)):=
  ⟨by simp,fun b hb=>by show (w.heap.push _)[b]? =_;grind,rfl,rfl,rfl,fun x _=>by
    by_cases h:x.block=w.heap.size
    · omega
    · have e1:(w.heap.push (.cells c t))[x.block]? =w.heap[x.block]? :=by grind
      show World.frozen? {w with heap:=w.heap.push _} x=_
      simp [World.frozen?,e1]⟩
theorem Ext.drew (w:World):Ext w w.drew:=⟨qlu _,fun _ _=>rfl,rfl,rfl,rfl,fun _ _=>rfl⟩
theorem Frame.ext {cx:Cx} {w w':World} (h:Frame cx w) (k:Ext w w'):Frame cx w':=
  ⟨ql4 h.size k.size,fun b hb hn=>(k.old b (qmj hb h.size)).trans (h.old b hb hn),k.os.trans h.os,k.tape.trans h.tape,k.output.trans h.output,fun x hx=>(k.ice x (qmj hx h.size)).trans (h.ice x hx),h.tab⟩
def St.put (s:St) (d:Option Nat) (v:V) (new:List Blk) (vw:Bool):St:=
  {s with env:=match d with | some t=>(t,v)::s.env | none=>s.env,O:=s.O++new,vw:=vw}
structure Gives (cx:Cx) (s:St) (nid:Nat) (w:World) (μ:Nat→Option Loc) (ow:Ow) (v:Value) (w':World) (val:V) (new:List Blk) (vw':Bool):Prop where
  ext:Ext w w'
  vw:s.vw=true→vw'=true
  rest:∃(locs:List Loc) (ow':Ow),locs.length=new.length∧(∀b,ow b≠none→ow' b=ow b)∧(∀b,b < w.heap.size→ow' b=ow b)∧(∀b,ow' b≠none→Live w' b)∧
    ∀ μ',MLe μ μ'→(∀j l,locs[j]? =some l→μ' (nid+j)=some l)→
      (∃bl,Rep w' μ' val v bl∧∀b∈bl,VOK cx ow' vw' b)∧∀j bk,new[j]? =some bk→BlkOK cx w' μ' ow' vw' (nid+j) bk
theorem getD_setIfInBounds (a:Array Value) (d t:Nat) (v:Value) (h:d < a.size):(a.setIfInBounds d v).getD t undef=if t=d then v else a.getD t undef:=by
  by_cases e:t=d
  · simp_all
  · simp [e,Ne.symm e]
theorem St.get_put (s:St) (d:Option Nat) (v:V) (new:List Blk) (vw:Bool) (t:Nat):(s.put d v new vw).get t=if d=some t then v else s.get t:=by
  cases d with
  | none=>rfl
  | some d=>
    by_cases e:t=d
    · simp_all[St.get,St.put,look]
    grind[Nat.beq,absurd,Nat.eq_of_beq_eq_true,St.get,St.put,look]
theorem Rel.put {cx:Cx} {s:St} {a:Act} {w w':World} {μ:Nat→Option Loc} {ow:Ow} {v:Value} {val:V} {new:List Blk} {vw':Bool} {d:Option Nat}
    (h:Rel cx s a w μ ow) (hd:∀t,d=some t→t < s.n) (g:Gives cx s s.O.length w μ ow v w' val new vw') :
    ∃μ' ow',Rel cx (s.put d val new vw') (a.put d v) w' μ' ow':=by
  obtain ⟨gext,gvw,locs,ow',hlen,hkeep,hold,hlt,hall⟩:=g;let μ':Nat→Option Loc:=fun id=>if s.O.length≤id then locs[id - s.O.length]? else μ id
  have hm:MLe μ μ':=by
    intro id l e;have:¬s.O.length≤id:=fun hle=>by rw [h.dom id hle] at e;cases e
    grind
  obtain ⟨⟨bl,hrep,hbl⟩,hnew⟩:=hall μ' hm (by grind);refine ⟨μ',ow',?_,?_,?_,?_,?_,?_,?_,h.frm.ext gext,h.mu.trans hm⟩
  · cases d<;>exact h.dfr
  · cases d<;>simp [Act.put,St.put,h.sz]
  · intro t
    rw [St.get_put];have hslot:∀t,d≠some t→(a.put d v).tmps.getD t undef=a.tmps.getD t undef:=by
      intro t ht;cases d with
      | none=>rfl
      | some e=>
        simp_all[Act.put]
    by_cases e:d=some t
    · subst e
      have hlt':t < a.tmps.size:=by rw [h.sz];grind
      rw [if_pos rfl];refine ⟨bl,?_,hbl⟩;have:(a.put (some t) v).tmps.getD t undef=v:=by
        show (a.tmps.setIfInBounds t v).getD t undef=v
        simp_all
      grind
    · rw [if_neg e,hslot t e]
      obtain ⟨bl',h1,h2⟩:=h.env t;exact ⟨bl',h1.keep hm fun b hb=>gext.old b (h1.lt b hb),fun b hb=>(h2 b hb).mono (hold b (h1.lt b hb)) gvw⟩
  · intro id bk e
    by_cases hid:id < s.O.length
    · have e':s.O[id]? =some bk:=by simp_all[St.put,List.getElem?_append_left]
      exact (h.blk id bk e').keep hm gvw fun b hb _=>⟨gext.old b hb,hold b hb⟩
    · have hge:s.O.length≤id:=Nat.le_of_not_lt hid
      have e':new[id - s.O.length]? =some bk:=by simp_all[St.put,List.getElem?_append_right]
      have:=hnew (id - s.O.length) bk e'
      rwa [Nat.add_sub_cancel' hge] at this
  · intro id hid
    have:s.O.length+new.length≤id:=by simpa [St.put] using hid
    grind
  · omega
  · intro b hb
    by_cases hlt2:b < w.heap.size
    · rw [hold b hlt2] at hb;exact h.own b hb
    · exact .inr (ql4 h.frm.size (Nat.le_of_not_lt hlt2))
end Go.Vm
namespace Go.Vm
open Go
def V.ofScalar:Value→V
  | .int k n=>.int k n
  | .bool b=>.bool b
  | .string s=>.str s
  | .slice none 0 0=>.nsl
  | .pointer none=>.npt
  | .nilFunc=>.nfn
  | _=>.any
def V.ofValue:Value→V
  | .agg cs=>if cs.toList.all Value.oneCell' then .agg (cs.toList.map V.ofScalar) else .any
  | v=>V.ofScalar v
def St.ev (s:St):Operand→V
  | .tmp t=>s.get t
  | .const v=>V.ofValue v
  | .func f=>.fn f []
  | .global _=>.any
def V.un:V→V
  | .opt _ v=>v
  | v=>v
def V.gd:V→Bool
  | .opt g _=>g
  | _=>true
def V.wrap (G:Bool):V→V
  | .opt g v=>.opt (G && g) v
  | v=>.opt G v
def V.noSl:V→Bool
  | .sl _ | .pv _ _ _ | .opt _ _ | .tup _=>false
  | .agg cs=>cs.all fun c=>match c with | .sl _ | .pv _ _ _ | .opt _ _ | .tup _ | .agg _ | .fn _ _=>false | _=>true
  | .fn _ cs=>cs.isEmpty
  | _=>true
def V.isVal:V→Bool
  | .any | .opt _ _ | .tup _=>false
  | _=>true
def V.noRef:V→Bool
  | .ref _ | .sub _ _ _ | .ptr _ _ _ | .opt _ _ | .tup _=>false
  | .agg cs=>cs.all fun c=>match c with | .ref _ | .sub _ _ _ | .ptr _ _ _ | .opt _ _ | .tup _ | .agg _ | .fn _ _=>false | _=>true
  | .fn _ cs=>cs.isEmpty
  | _=>true
def kindAll (xs:List V):Kd:=if xs.all V.noRef then (if xs.all V.noSl then .flat else .shal) else .mix
def kindOf (v:V):Kd:=kindAll [v]
def settleL (nid:Nat):List V→List V×List Blk
  | []=>([],[])
  | .nsl::l=>let r:=settleL (nid+1) l;(.ref nid::r.1,.arr [] .flat::r.2)
  | v::l=>let r:=settleL nid l;(v::r.1,r.2)
def settle (nid:Nat):V→V×List Blk
  | .nsl=>(.ref nid,[.arr [] .flat])
  | .agg cs=>let r:=settleL nid cs;(.agg r.1,r.2)
  | v=>(v,[])
def Program.isAggT (P:Program) (t:TypeId):Bool:=
  match P.underlying t with
  | some (.struct _) | some (.array _ _)=>true
  | _=>false
def Program.zeroOf (P:Program) (t:TypeId):Option Value:=(P.info? t).bind (·.zero)
def part (P:Program) (T:TypeId) (x:V) (off:Nat):V:=
  bif Program.isAggT P T then .agg ((x.cells.drop off).take (P.cellsOf T)) else (x.cells.drop off).headD .any
def PartOK (P:Program) (T:TypeId) (n off:Nat):Prop:=(P.underlying T).isSome=true∧0 < P.cellsOf T∧off+P.cellsOf T≤n
def pickV (t:Bool):V→V→V
  | .bool p,.bool q=>.bool (bif t then p else q)
  | a,b=>bif t then a else b
def Blk.row:Blk→Option (List V×Kd)
  | .dead | .hid _ _=>none
  | .arr xs k=>some (xs,k)
  | .box x k=>some ([x],k)
def St.row (s:St) (id:Nat):Option (List V×Kd):=(s.O[id]?).bind Blk.row
def contentL:List V→List V:=List.map fun v=>match v with | .nsl=>.sl [] | v=>v
def content:V→V
  | .nsl=>.sl []
  | .agg cs=>.agg (contentL cs)
  | v=>v
abbrev KV:=V→List Blk→Bool→Prop
def strLt (a b:ByteArray):Bool:=Op.bytesLess a.toList b.toList
inductive EK where
  | int (k:IntKind)
  | bool
  | str
def eqKs (P:Program):Nat→List Field→Option (List EK)
  | _,[]=>some []
  | i,f::fs=>if f.name= "_" ∨f.offset≠i∨Program.isAggT P f.type=true∨P.cellsOf f.type≠1 then none else match P.underlying f.type,eqKs P (i+1) fs with
    | some (.int k),some ks=>some (.int k::ks)
    | some .bool,some ks=>some (.bool::ks)
    | some .string,some ks=>some (.str::ks)
    | _,_=>none
def eqT (P:Program) (t:TypeId):Option (List EK):=match P.underlying t with
  | some (.struct fs)=>if P.stoodInHeld t=false∧P.eqGuardType P.depth t=false then eqKs P 0 fs.toList else none
  | _=>none
def EK.fits:EK→V→Prop
  | .int k,.int k' _=>k'=k
  | .bool,.bool _=>True
  | .str,.str _=>True
  | _,_=>False
def EK.fitsL:List EK→List V→Prop
  | [],[]=>True
  | e::es,v::vs=>e.fits v∧EK.fitsL es vs
  | _,_=>False
def cellEq:V→V→Bool
  | .int _ a,.int _ b=>decide (a=b)
  | .bool a,.bool b=>a == b
  | .str a,.str b=>decide (a=b)
  | _,_=>false
def cellsEq:List V→List V→Bool
  | [],[]=>true
  | [a],[b]=>cellEq a b
  | a::as,b::bs=>cellEq a b && cellsEq as bs
  | _,_=>false
def aBin (P:Program) (G:Bool) (op:BinOp) (xt:TypeId) (vw:Bool) (K:KV):V→V→Prop
  | .int k a,.int k' b=>(op=.shl∨op=.shr∨k=k')∧match op with
    | .shl=>(G=true→0≤b)∧K (.int k (k.wrap (a * 2 ^ min b.toNat k.bits))) [] vw
    | .shr=>(G=true→0≤b)∧K (.int k (a.fdiv (2 ^ min b.toNat k.bits))) [] vw
    | .and=>K (.int k (k.wrap ((BitVec.ofInt k.bits a &&& BitVec.ofInt k.bits b).toNat:Int))) [] vw
    | .add=>K (.int k (k.wrap (a+b))) [] vw
    | .sub=>K (.int k (k.wrap (a - b))) [] vw
    | .mul=>K (.int k (k.wrap (a * b))) [] vw
    | .quo=>(G=true→b≠0)∧K (.int k (k.wrap (a.tdiv b))) [] vw
    | .rem=>(G=true→b≠0)∧K (.int k (a.tmod b)) [] vw
    | .eql=>K (.bool (decide (a=b))) [] vw
    | .neq=>K (.bool (!decide (a=b))) [] vw
    | .lss=>K (.bool (decide (a < b))) [] vw
    | .leq=>K (.bool (decide (a≤b))) [] vw
    | .gtr=>K (.bool (decide (b < a))) [] vw
    | .geq=>K (.bool (decide (b≤a))) [] vw
    | _=>False
  | .str a,.str b=>match op with
    | .add=>(G=true→a.size+b.size≤9223372036854775807)∧K (.str (a++b)) [] vw
    | .eql=>K (.bool (decide (a=b))) [] vw
    | .neq=>K (.bool (!decide (a=b))) [] vw
    | .lss=>K (.bool (strLt a b)) [] vw
    | .leq=>K (.bool (strLt a b || decide (a=b))) [] vw
    | .gtr=>K (.bool (!(strLt a b || decide (a=b)))) [] vw
    | .geq=>K (.bool (!strLt a b)) [] vw
    | _=>False
  | .bool a,.bool b=>P.underlying xt=some .bool∧match op with
    | .eql=>K (.bool (a == b)) [] vw
    | .neq=>K (.bool (!(a == b))) [] vw
    | _=>False
  | .agg a,.agg b=>match eqT P xt with
    | some ks=>(EK.fitsL ks a∧EK.fitsL ks b)∧match op with
      | .eql=>K (.bool (cellsEq a b)) [] vw
      | .neq=>K (.bool (!cellsEq a b)) [] vw
      | _=>False
    | none=>False
  | _,_=>False
def isNil:Operand→Bool
  | .const (.slice none 0 0)=>true
  | _=>false
def aNil (P:Program) (s:St) (op:BinOp) (xt:TypeId) (K:KV) (v:V):Prop:=
  (∃e,P.underlying xt=some (.slice e))∧(op=.eql∨op=.neq)∧match v with
  | .sl xs=>∀b:Bool,(xs≠[]→b=false)→K (.bool (bif op == .neq then !b else b)) [] s.vw
  | .ref id=>match s.row id with
    | some (xs,_)=>∀b:Bool,(xs≠[]→b=false)→K (.bool (bif op == .neq then !b else b)) [] s.vw
    | none=>False
  | .sub _ _ n=>∀b:Bool,(n≠0→b=false)→K (.bool (bif op == .neq then !b else b)) [] s.vw
  | .nsl=>∀b:Bool,K (.bool (bif op == .neq then !b else b)) [] s.vw
  | _=>False
def aUn (op:UnOp) (vw:Bool) (K:KV):V→Prop
  | .bool b=>op=.not∧K (.bool (!b)) [] vw
  | .int k n=>op=.neg∧K (.int k (k.wrap (0 - n))) [] vw
  | _=>False
def aLoad (P:Program) (s:St) (T:TypeId) (G:Bool) (K:KV):V→Prop
  | .ptr id i off=>match s.row id with
    | some (xs,k)=>(G=true→PartOK P T (xs.getD i .any).cells.length off)∧
        (let v:=part P T (xs.getD i .any) off;K v [] (s.vw || ((decide (k=.deep) || decide (k=.part)) && !v.noSl)))
    | none=>False
  | .pv xs i off=>(G=true→PartOK P T (xs.getD i .any).cells.length off)∧K (part P T (xs.getD i .any) off) [] s.vw
  | _=>False
def aIndexAddr (P:Program) (s:St) (t:TypeId) (G:Bool) (K:KV):V→V→Prop
  | .sl xs,.int _ i=>(∃e,P.underlying t=some (.slice e)∧∀x∈xs,x.cells.length=P.cellsOf e)∧(G=true→0≤i∧i < xs.length)∧K (.pv xs i.toNat 0) [] s.vw
  | .ref id,.int _ i=>match s.row id with
    | some (xs,_)=>(∃e,P.underlying t=some (.slice e)∧∀x∈xs,x.cells.length=P.cellsOf e)∧(G=true→0≤i∧i < xs.length)∧K (.ptr id i.toNat 0) [] s.vw
    | none=>False
  | .sub id lo n,.int _ i=>match s.row id with
    | some (xs,_)=>(∃e,P.underlying t=some (.slice e)∧∀x∈xs,x.cells.length=P.cellsOf e)∧(G=true→0≤i∧i < n)∧K (.ptr id (lo+i.toNat) 0) [] s.vw
    | none=>False
  | .ptr id j off,.int _ i=>match P.underlying t with
    | some (.array len e)=>0 < P.cellsOf e∧(G=true→0≤i∧i < len)∧K (.ptr id j (off+i.toNat * P.cellsOf e)) [] s.vw
    | _=>False
  | .pv xs j off,.int _ i=>match P.underlying t with
    | some (.array len e)=>0 < P.cellsOf e∧(G=true→0≤i∧i < len)∧K (.pv xs j (off+i.toNat * P.cellsOf e)) [] s.vw
    | _=>False
  | _,_=>False
def aLen (s:St) (vw:Bool) (K:KV):V→Prop
  | .sl xs=>K (.int .i64 xs.length) [] vw
  | .nsl=>K (.int .i64 0) [] vw
  | .str b=>K (.int .i64 b.size) [] vw
  | .ref id=>match s.row id with | some (xs,_)=>K (.int .i64 xs.length) [] vw | none=>False
  | .sub _ _ n=>K (.int .i64 n) [] vw
  | _=>False
def lenOK:Option TypeDesc→V→Prop
  | some .string,.str _=>True
  | some (.slice _),.str _=>False
  | some (.slice _),_=>True
  | _,_=>False
def byteAt (s:ByteArray) (i:Nat):Int:=((s.data.toList.getD i 0).toNat:Int)
def aIndex (P:Program) (s:St) (t:TypeId) (G:Bool) (K:KV):V→V→Prop
  | .str b,.int _ i=>P.underlying t=some .string∧(G=true→0≤i∧i < b.size)∧K (.int .u8 (byteAt b i.toNat)) [] s.vw
  | .agg cs,.int _ i=>match P.underlying t with
    | some (.array len e)=>((P.underlying e).isSome=true∧P.cellsOf e=1∧Program.isAggT P e=false)∧(G=true→0≤i∧i < len∧i.toNat < cs.length)∧K (cs.getD i.toNat .any) [] s.vw
    | _=>False
  | _,_=>False
def bound (d:Int):Option V→Option Int
  | none=>some d
  | some (.int _ n)=>some n
  | _=>none
def ElemsOK (P:Program) (t:TypeId) (xs:List V):Prop:=∃e,P.underlying t=some (.slice e)∧0 < P.cellsOf e∧∀x∈xs,x.cells.length=P.cellsOf e
def aSlice (P:Program) (s:St) (t:TypeId) (G:Bool) (K:KV) (x:V) (lo hi:Option V):Prop:=
  match x with
  | .str b=>P.underlying t=some .string∧match bound 0 lo,bound b.size hi with
    | some l,some h=>(G=true→0≤l∧l≤h∧h≤b.size)∧K (.str (b.extract l.toNat h.toNat)) [] s.vw
    | _,_=>False
  | .sl xs=>ElemsOK P t xs∧match bound 0 lo,bound xs.length hi with
    | some l,some h=>(G=true→0≤l∧l≤h∧h≤xs.length)∧K (.sl ((xs.take h.toNat).drop l.toNat)) [] s.vw
    | _,_=>False
  | .ref id=>match s.row id with
    | some (xs,_)=>ElemsOK P t xs∧match bound 0 lo,bound xs.length hi with
      | some l,some h=>(G=true→0≤l∧l≤h∧h≤xs.length)∧K (.sub id l.toNat (h.toNat - l.toNat)) [] s.vw
      | _,_=>False
    | none=>False
  | .sub id lo0 n=>match s.row id with
    | some (xs,_)=>ElemsOK P t xs∧match bound 0 lo,bound n hi with
      | some l,some h=>(G=true→0≤l∧l≤h∧h≤n)∧K (.sub id (lo0+l.toNat) (h.toNat - l.toNat)) [] s.vw
      | _,_=>False
    | none=>False
  | _=>False
def aExtract (vw:Bool) (i:Nat) (K:KV):V→Prop
  | .tup vs=>i < vs.length∧K (vs.getD i .any) [] vw
  | _=>False
def aField (P:Program) (xt:TypeId) (f:Nat) (G:Bool) (vw:Bool) (K:KV):V→Prop
  | .agg cs=>match P.underlying xt with
    | some (.struct fs)=>match fs[f]? with
      | some fd=>(G=true→PartOK P fd.type cs.length fd.offset)∧K (part P fd.type (.agg cs) fd.offset) [] vw
      | none=>False
    | _=>False
  | _=>False
def aFieldAddr (P:Program) (xt:TypeId) (f:Nat) (vw:Bool) (K:KV) (p:V):Prop:=
  match P.underlying xt with
  | some (.struct fs)=>match fs[f]? with
    | some fd=>0 < P.cellsOf fd.type∧match p with
      | .ptr id i off=>K (.ptr id i (off+fd.offset)) [] vw
      | .pv xs i off=>K (.pv xs i (off+fd.offset)) [] vw
      | _=>False
    | none=>False
  | _=>False
def aMinMax (mx:Bool) (vw:Bool) (K:KV):List V→Prop
  | [.int k a,.int k' b]=>k=k'∧K (.int k (if mx then (if b > a then b else a) else (if b < a then b else a))) [] vw
  | _=>False
def litElems (n:Nat) (parts:List (Nat×V)):Option (List V):=
  if parts.map (·.1)=List.range n∧(parts.map (·.2)).all (fun v=>v.isVal)=true then some (parts.map fun p=>p.2) else none
def fillV (places:Nat→Option (Nat×Nat)):List V→List (Nat×V)→Option (List V)
  | cs,[]=>some cs
  | cs,(i,v)::rest=>match places i with
    | some (off,size)=>if v.cells.length=size∧off+size≤cs.length then fillV places (cs.take off++v.cells++cs.drop (off+size)) rest else none
    | none=>none
def setCells (x:V) (off:Nat) (v:V):V:=
  match x with
  | .agg cs=>.agg (cs.take off++v.cells++cs.drop (off+v.cells.length))
  | _=>v
def takeCell (s:St):V→Option (V×List Nat×Bool)
  | .nsl=>some (.sl [],[],false)
  | .sl xs=>some (.sl xs,[],true)
  | .pv _ _ _ | .sub _ _ _ | .ptr _ _ _ | .opt _ _ | .tup _ | .any | .agg _ | .fn _ _=>none
  | .ref id=>match s.row id with
    | some (xs,k)=>bif k == .flat || k == .deep || k == .thin then some (.sl xs,[id],false) else none
    | none=>none
  | v=>some (v,[],false)
def takeCells (s:St):List V→Option (List V×List Nat×Bool)
  | []=>some ([],[],false)
  | c::cs=>match takeCell s c,takeCells s cs with
    | some (c',l,b),some (cs',l',b')=>some (c'::cs',l++l',b || b')
    | _,_=>none
def takeV (s:St):V→Option (V×List Nat×Bool)
  | .agg cs=>match takeCells s cs with
    | some (cs',l,b)=>some (.agg cs',l,b)
    | none=>none
  | v=>takeCell s v
def kdJoin:Kd→Bool→Bool→Option Kd
  | .flat,false,false=>some .flat
  | .flat,true,false=>some .deep
  | .thin,false,false=>some .thin
  | .deep,_,false=>some .deep
  | .flat,false,true=>some .shal
  | .shal,false,_=>some .shal
  | _,_,_=>none
def killAll (O:List Blk):List Nat→List Blk
  | []=>O
  | id::l=>killAll (O.set id .dead) l
def ops (s:St) (xs:List Operand):List V:=xs.map s.ev
def unByte:List V→Option (List Int)
  | []=>some []
  | .int .u8 n::l=>(unByte l).map (n::·)
  | _=>none
def strOf (ns:List Int):ByteArray:=ns.foldl (fun r n=>r.push (UInt8.ofNat n.toNat)) ByteArray.empty
def aop (P:Program) (s:St) (nid:Nat) (G:Bool) (o:Op) (K:KV):Prop:=
  match o with
  | .move x=>K (s.ev x) [] s.vw
  | .assign x=>K (settle nid (s.ev x)).1 (settle nid (s.ev x)).2 s.vw
  | .pick c a b=>match (s.ev c).un with
    | .bool t=>(G=true→(s.ev c).gd=true∧(t=true→(s.ev a).gd=true)∧(t=false→(s.ev b).gd=true))∧K (pickV t (s.ev a).un (s.ev b).un) [] s.vw
    | _=>False
  | .alloc T=>match Program.zeroOf P T with
    | some z=>let r:=settle nid (V.ofValue z);r.1.isVal=true∧0 < r.1.cells.length∧K (.ptr (nid+r.2.length) 0 0) (r.2++[.box r.1 (kindOf r.1)]) s.vw
    | none=>False
  | .box _ x=>let r:=settle nid (s.ev x).un;(G=true→(s.ev x).gd=true)∧(G=true→r.1.isVal=true∧0 < r.1.cells.length)∧K (.ptr (nid+r.2.length) 0 0) (r.2++[.box r.1 (kindOf r.1)]) s.vw
  | .build T ps=>match P.underlying T,Program.zeroOf P T with
    | some (.struct fs),some z=>match fillV (fun i=>(fs[i]?).map fun f=>(f.offset,P.cellsOf f.type)) (V.ofValue z).cells (ps.toList.map fun p=>(p.1,(s.ev p.2).un)) with
      | some cs=>(∀f∈fs.toList,0 < P.cellsOf f.type)∧(V.ofValue z).isVal=true∧(G=true→∀p∈ps.toList,(s.ev p.2).gd=true∧(s.ev p.2).un.isVal=true)∧K (.agg cs) [] s.vw
      | none=>False
    | some (.array _ e),some z=>match fillV (fun i=>some (i * P.cellsOf e,P.cellsOf e)) (V.ofValue z).cells (ps.toList.map fun p=>(p.1,(s.ev p.2).un)) with
      | some cs=>0 < P.cellsOf e∧(V.ofValue z).isVal=true∧(G=true→∀p∈ps.toList,(s.ev p.2).gd=true∧(s.ev p.2).un.isVal=true)∧K (.agg cs) [] s.vw
      | none=>False
    | _,_=>False
  | .buildSlice T n ps=>match P.underlying T,litElems n (ps.toList.map fun p=>(p.1,(s.ev p.2).un)) with
    | some (.slice e),some xs=>((G=true→∀p∈ps.toList,(s.ev p.2).gd=true)∧0 < P.cellsOf e)∧n * P.cellsOf e≤16777216∧(Program.zeroOf P e).isSome=true∧(∀x∈xs,x.cells.length=P.cellsOf e)∧
        K (.ref nid) [.arr xs (kindAll xs)] s.vw
    | _,_=>False
  | .load T p=>(G=true→(s.ev p).gd=true)∧aLoad P s T G K (s.ev p).un
  | .nilCheck x=>(G=true→(s.ev x).gd=true)∧match (s.ev x).un with
    | .ptr id i off=>K (.ptr id i off) [] s.vw
    | .pv xs i off=>K (.pv xs i off) [] s.vw
    | _=>False
  | .binOp op xt x y _=>(G=true→(s.ev x).gd=true∧(s.ev y).gd=true)∧(bif isNil y then aNil P s op xt K (s.ev x).un else aBin P G op xt s.vw K (s.ev x).un (s.ev y).un)
  | .unOp op _ x=>(G=true→(s.ev x).gd=true)∧aUn op s.vw K (s.ev x).un
  | .convert src dst x=>(G=true→(s.ev x).gd=true)∧(P.underlying src).isSome=true∧match P.underlying dst,(s.ev x).un with
    | some (.int k),.int _ n=>K (.int k (k.wrap n)) [] s.vw
    | some .string,.ref id=>match (s.row id).bind (fun r=>unByte r.1) with
      | some ns=>(∃e,P.underlying src=some (.slice e)∧P.underlying e=some (.int .u8))∧K (.str (strOf ns)) [] s.vw
      | none=>False
    | _,_=>False
  | .makeFunc (.func f) first cap=>first.size=0∧K (.fn f (cap.toList.map s.ev)) [] s.vw
  | .makeSlice t l c=>match P.underlying t,(s.ev l).un,(s.ev c).un with
    | some (.slice e),.int _ n,.int _ m=>match Program.zeroOf P e with
      | some z=>n=m∧(G=true→(s.ev l).gd=true∧(s.ev c).gd=true∧0≤n∧P.bytesOf e * n≤281474976710656∧n≤9223372036854775807)∧
          (V.ofValue z).isVal=true∧(V.ofValue z).cells.length=P.cellsOf e∧0 < P.cellsOf e∧(content (V.ofValue z)).noRef=true∧(V.ofValue z).noSl=true∧
          K (.ref nid) [.arr (List.replicate n.toNat (content (V.ofValue z))) .flat] s.vw
      | none=>False
    | _,_,_=>False
  | .slice t x lo hi mx=>mx.isNone=true∧
      (G=true→(s.ev x).gd=true∧(∀y,lo=some y→(s.ev y).gd=true)∧(∀y,hi=some y→(s.ev y).gd=true))∧
      aSlice P s t G K (s.ev x).un (lo.map fun y=>(s.ev y).un) (hi.map fun y=>(s.ev y).un)
  | .fieldAddr xt x f=>(G=true→(s.ev x).gd=true)∧aFieldAddr P xt f s.vw K (s.ev x).un
  | .field xt x f=>(G=true→(s.ev x).gd=true)∧aField P xt f G s.vw K (s.ev x).un
  | .indexAddr t x i=>(G=true→(s.ev x).gd=true∧(s.ev i).gd=true)∧aIndexAddr P s t G K (s.ev x).un (s.ev i).un
  | .index t x i=>(G=true→(s.ev x).gd=true∧(s.ev i).gd=true)∧aIndex P s t G K (s.ev x).un (s.ev i).un
  | .extract x i=>(G=true→(s.ev x).gd=true)∧aExtract s.vw i K (s.ev x).un
  | .call {callee:=.builtin .len,args,argTypes}=>args.size=1∧argTypes.size=1∧lenOK (P.underlying (argTypes.getD 0 0)) (s.ev (args.getD 0 default)).un∧
      (G=true→(s.ev (args.getD 0 default)).gd=true)∧aLen s s.vw K (s.ev (args.getD 0 default)).un
  | .call {callee:=.builtin .max,args,..}=>(G=true→∀x∈args.toList,(s.ev x).gd=true)∧aMinMax true s.vw K (args.toList.map fun x=>(s.ev x).un)
  | .call {callee:=.builtin .min,args,..}=>(G=true→∀x∈args.toList,(s.ev x).gd=true)∧aMinMax false s.vw K (args.toList.map fun x=>(s.ev x).un)
  | _=>False
end Go.Vm
namespace Go.Vm
open Go
structure Sup (cx:Cx) (s:St) (a:Act) (w:World) (μ:Nat→Option Loc) (ow:Ow):Prop where
  env:∀t,∃bl,Rep w μ (s.get t) (a.tmps.getD t undef) bl∧∀b∈bl,VOK cx ow s.vw b
  blk:∀id bk,s.O[id]? =some bk→BlkOK cx w μ ow s.vw id bk
  owl:∀b,ow b≠none→Live w b
  own:∀b,ow b≠none→cx.own0 b∨cx.w0.heap.size≤b
  frm:cx.w0.heap.size≤w.heap.size
theorem Rel.sup {cx:Cx} {s:St} {a:Act} {w:World} {μ:Nat→Option Loc} {ow:Ow} (h:Rel cx s a w μ ow):Sup cx s a w μ ow:=⟨h.env,h.blk,h.owl,h.own,h.frm.size⟩
def QV (P:Program) (cx:Cx) (s:St) (nid:Nat) (w:World) (μ:Nat→Option Loc) (ow:Ow) (o:Oper) (a:Act) (K:KV):Prop:=
  ∃v w' val new vw',(execOp a.eval o).run P w=.ok (.value v) w'∧Gives cx s nid w μ ow v w' val new vw'∧K val new vw'
section
variable {P:Program} {cx:Cx} {s:St} {nid:Nat} {a:Act} {w:World} {μ:Nat→Option Loc} {ow:Ow} {o:Oper} {K:KV}
theorem Rep.ofScalar (v:Value):Rep w μ (V.ofScalar v) v []:=by
  unfold V.ofScalar;split<;>first | exact .int _ _ | exact .bool _ | exact .str _ | exact .nsl _ | exact .npt | exact .nfn | exact .any _
theorem RepL.ofScalars:∀cs:List Value,RepL w μ (cs.map V.ofScalar) cs []
  | []=>.nil
  | c::cs=>.cons _ _ [] _ _ [] (Rep.ofScalar c) (RepL.ofScalars cs)
theorem Rep.ofValue (v:Value):Rep w μ (V.ofValue v) v []:=by
  unfold V.ofValue;split
  · rename_i cs
    split
    · rename_i h
      have:=Rep.agg (w:=w) (μ:=μ) _ _ _ (RepL.ofScalars (w:=w) (μ:=μ) cs.toList) (fun x hx=>qlh.1 h x hx);omega
    · exact .any _
  · exact Rep.ofScalar v
theorem Sup.ev (h:Sup cx s a w μ ow) (x:Operand):∃bl,Rep w μ (s.ev x) (a.eval x) bl∧∀b∈bl,VOK cx ow s.vw b:=by
  cases x with
  | tmp t=>exact h.env t
  | const v=>exact ⟨[],Rep.ofValue v,by simp⟩
  | global g=>exact ⟨[],.any _,by simp⟩
  | func f=>exact ⟨[],Rep.fn f [] [] [] .nil,by simp⟩
theorem Rep.un {v:V} {x:Value} {bl:List Nat} (h:Rep w μ v x bl) (hg:v.gd=true):Rep w μ v.un x bl:=by
  cases h<;>first | assumption | (simp [V.gd] at hg;done) | skip
  all_goals simp only [V.un]
  all_goals first | assumption | (constructor<;>assumption) | constructor
theorem Sup.evu (h:Sup cx s a w μ ow) (x:Operand) (hg:(s.ev x).gd=true):∃bl,Rep w μ (s.ev x).un (a.eval x) bl∧∀b∈bl,VOK cx ow s.vw b:=
  let ⟨bl,h1,h2⟩:=h.ev x
  ⟨bl,h1.un hg,h2⟩
theorem Gives.pure (h:Sup cx s a w μ ow) {v:Value} {val:V} {bl:List Nat} {vw:Bool} (hr:Rep w μ val v bl) (hb:∀b∈bl,VOK cx ow vw b) (hv:s.vw=true→vw=true) :
    Gives cx s nid w μ ow v w val [] vw:=
  ⟨Ext.refl w,hv,[],ow,rfl,fun _ _=>rfl,fun _ _=>rfl,h.owl,fun μ' hm _=>⟨⟨bl,hr.keep hm fun _ _=>rfl,hb⟩,fun j bk e=>by grind⟩⟩
theorem run_v (m:Sem Value) {v:Value} {w':World} (h:m.run P w=.ok v w'):(do Pure.pure (Next.value (←m)):Sem Next).run P w=.ok (.value v) w':=by
  simp_all
theorem QV.pure (h:Sup cx s a w μ ow) {v:Value} {val:V} {bl:List Nat} {vw:Bool} (hrun:(execOp a.eval o).run P w=.ok (.value v) w) (hr:Rep w μ val v bl)
    (hb:∀b∈bl,VOK cx ow vw b) (hv:s.vw=true→vw=true) (hk:K val [] vw):QV P cx s nid w μ ow o a K:=
  ⟨v,w,val,[],vw,hrun,Gives.pure h hr hb hv,hk⟩
theorem Rep.bool_inv {t:Bool} {x:Value} {bl:List Nat} (h:Rep w μ (.bool t) x bl):x=.bool t:=by cases h;rfl
theorem Rep.int_inv {k:IntKind} {n:Int} {x:Value} {bl:List Nat} (h:Rep w μ (.int k n) x bl):x=.int k n:=by cases h;rfl
theorem Rep.str_inv {b:ByteArray} {x:Value} {bl:List Nat} (h:Rep w μ (.str b) x bl):x=.string b:=by cases h;rfl
theorem Rep.ptr_inv {id i off:Nat} {x:Value} {bl:List Nat} (h:Rep w μ (.ptr id i off) x bl) :
    ∃l,μ id=some l∧i < l.n∧x=.pointer (some ⟨l.b,l.off+(i * l.sz+off),none⟩):=by
  cases h with
  | ptr _ _ _ l h hi=>grind
theorem Rep.pv_inv {xs:List V} {i off:Nat} {x:Value} {bl:List Nat} (h:Rep w μ (.pv xs i off) x bl) :
    ∃b o sz vs bl',i < xs.length∧0 < sz∧(∀x∈xs,x.cells.length=sz)∧RepL w M0 (xs.flatMap V.cells) vs bl'∧(∀x∈vs,x.oneCell'=true)∧Row w b o vs∧bl=b::bl'∧x=.pointer (some ⟨b,o+(i * sz+off),none⟩):=by
  cases h with
  | pv _ _ _ b o sz vs bl hi hs hz hl h1 hr=>exact ⟨b,o,sz,vs,bl,hi,hs,hz,hl,h1,hr,rfl,rfl⟩
/- numbers, strings, tests -/
theorem eqGuard_nil (op:BinOp) (t:TypeId) (x y:Operand) (u v:Value) (h:∀c,u≠.agg c) (hn:u≠.nilIface):(eqGuard op t x y u v).run P w=.ok () w:=by
  unfold eqGuard;cases op<;>first
    | rfl
    | simp_all
theorem run_bin (op:BinOp) (xt yt:TypeId) (x y:Operand) (ho:o.op=.binOp op xt x y yt) {r:Value} (h:∀c,a.eval x≠.agg c) (hn:a.eval x≠.nilIface)
    (hr:(binOp op xt (a.eval x) (a.eval y)).run P w=.ok r w):(execOp a.eval o).run P w=.ok (.value r) w:=by
  simp_all[execOp,run_v,Sem.run_bind,eqGuard_nil]
theorem beq_toList (x y:ByteArray):(x.toList == y.toList)=decide (x=y):=by
  rw [ByteArray.toList_eq,ByteArray.toList_eq]
  by_cases h:x=y
  · grind
  · rw [decide_eq_false h]
    cases e:(x.data.toList == y.data.toList) with
    | false=>rfl
    | true=>
      have h1:x.data.toList=y.data.toList:=beq_iff_eq.1 e;exact absurd (by cases x;simp_all) h
theorem beq_int (m n:Int):(m == n)=decide (m=n):=by by_cases q:m=n<;>simp [q]
theorem run_part1 {T:TypeId} {cs:Array Value} {off:Nat} {v:Value} {w:World} (hs:(P.underlying T).isSome=true) (_:P.cellsOf T=1) (hA:Program.isAggT P T=false) (h:cs[off]? =some v):(Go.part T cs off).run P w=.ok v w:=by
  obtain ⟨d,hd⟩:=qmb.1 hs;unfold Go.part isAgg;rw [Sem.run_bind,Sem.run_bind,run_underlying hd w];unfold Program.isAggT at hA;rw [hd] at hA;cases d<;>simp_all [Sem.run_pure]
theorem cellsEq_cons (a b:V) (as bs:List V):cellsEq (a::as) (b::bs)=(cellEq a b && cellsEq as bs):=by
  cases as<;>cases bs<;>simp [cellsEq]
theorem eqFields_run {w:World} {μ:Nat→Option Loc} (d:Nat) (xs ys:Array Value):∀(fs:List Field) (i:Nat) (ks:List EK) (as bs:List V) (us vs:List Value) (bl bl':List Nat),eqKs P i fs=some ks→
    EK.fitsL ks as→EK.fitsL ks bs→RepL w μ as us bl→RepL w μ bs vs bl'→xs.toList.drop i=us→ys.toList.drop i=vs→(Op.eqFields (d+1) xs ys fs).run P w=.ok (cellsEq as bs) w
  | [],i,ks,as,bs,us,vs,bl,bl',hk,fa,fb,ra,rb,hx,hy=>by
    simp only [eqKs,Option.some.injEq] at hk;subst hk;cases as with
    | nil=>cases bs with
      | nil=>rfl
      | cons b bs=>exact fb.elim
    | cons a as=>exact fa.elim
  | f ::fs,i,ks,as,bs,us,vs,bl,bl',hk,fa,fb,ra,rb,hx,hy=>by
    unfold eqKs at hk;split at hk
    · grind
    · rename_i hc
      simp only [not_or,ne_eq,Decidable.not_not,Bool.not_eq_true] at hc;obtain ⟨c1,c2,c3,c4⟩:=hc;have step:∀(e:EK) (es:List EK) (a b:V) (as' bs':List V),as=a::as'→bs=b::bs'→eqKs P (i+1) fs=some es→e.fits a→e.fits b→EK.fitsL es as'→EK.fitsL es bs'→(P.underlying f.type).isSome=true→
          (∀(u v:Value) (b1 b2:List Nat),Rep w μ a u b1→Rep w μ b v b2→(Op.equalIn (d+1) f.type u v).run P w=.ok (cellEq a b) w)→(Op.eqFields (d+1) xs ys (f::fs)).run P w=.ok (cellsEq as bs) w:=by
        intro e es a b as' bs' ea eb hes ha hb hfa hfb hu heq;subst ea eb;cases ra with
        | cons _ u b1 _ us' b2 ra1 ra2=>
        cases rb with
        | cons _ v b3 _ vs' b4 rb1 rb2=>
          have hx':xs.toList.drop (i+1)=us':=by rw [←List.drop_drop,hx];rfl
          have hy':ys.toList.drop (i+1)=vs':=by rw [←List.drop_drop,hy];rfl
          have gx:xs[i]? =some u:=by
            rw [←Array.getElem?_toList];have:=congrArg (·[0]?) hx
            grind
          have gy:ys[i]? =some v:=by
            rw [←Array.getElem?_toList];have:=congrArg (·[0]?) hy
            grind
          have px:(Go.part f.type xs f.offset).run P w=.ok u w:=run_part1 hu c4 c3 (by grind);have py:(Go.part f.type ys f.offset).run P w=.ok v w:=run_part1 hu c4 c3 (by grind);unfold Op.eqFields;rw [if_pos c1];simp only [Sem.run_bind,px,py,Result.andThen_ok,heq u v _ _ ra1 rb1];rw [cellsEq_cons];cases hce:cellEq a b with
          | false=>simp
          | true=>
            simp only [Bool.not_true,Bool.false_eq_true,if_false,Bool.true_and];exact eqFields_run d xs ys fs (i+1) es as' bs' us' vs' _ _ hes hfa hfb ra2 rb2 hx' hy'
      cases as with
      | nil=>split at hk<;>(try cases hk)<;>exact fa.elim
      | cons a as=>cases bs with
        | nil=>split at hk<;>(try cases hk)<;>exact fb.elim
        | cons b bs=>
          split at hk
          · rename_i k es hu hes
            simp only [Option.some.injEq] at hk;subst hk;refine step (.int k) es a b as bs rfl rfl hes fa.1 fb.1 fa.2 fb.2 (by grind) ?_;intro u v b1 b2 r1 r2;have f1:=fa.1;have f2:=fb.1;cases a<;>simp only [EK.fits] at f1<;>try exact f1.elim
            cases b<;>simp only [EK.fits] at f2<;>try exact f2.elim
            subst f1;subst f2;cases r1;cases r2;rw [run_equalIn_int (P:=P) w d f.type _ _ _ _ hu];rfl
          · rename_i es hu hes
            simp only [Option.some.injEq] at hk;subst hk;refine step .bool es a b as bs rfl rfl hes fa.1 fb.1 fa.2 fb.2 (by grind) ?_;intro u v b1 b2 r1 r2;have f1:=fa.1;have f2:=fb.1;cases a<;>simp only [EK.fits] at f1<;>try exact f1.elim
            cases b<;>simp only [EK.fits] at f2<;>try exact f2.elim
            cases r1;cases r2;rw [run_equalIn_bool' (P:=P) w d f.type _ _ hu];rfl
          · rename_i es hu hes
            simp only [Option.some.injEq] at hk;subst hk;refine step .str es a b as bs rfl rfl hes fa.1 fb.1 fa.2 fb.2 (by grind) ?_;intro u v b1 b2 r1 r2;have f1:=fa.1;have f2:=fb.1;cases a<;>simp only [EK.fits] at f1<;>try exact f1.elim
            cases b<;>simp only [EK.fits] at f2<;>try exact f2.elim
            cases r1;cases r2
            grind[run_equalIn_string,cellEq,beq_toList]
          grind
theorem bin_sound (h:Sup cx s a w μ ow) (op:BinOp) (xt yt:TypeId) (x y:Operand) (ho:o.op=.binOp op xt x y yt) (hx:(s.ev x).gd=true) (hy:(s.ev y).gd=true)
    (hk:aBin P true op xt s.vw K (s.ev x).un (s.ev y).un):QV P cx s nid w μ ow o a K:=by
  obtain ⟨bx,rx,_⟩:=h.evu x hx;obtain ⟨by_,ry,_⟩:=h.evu y hy;have fin:∀{val:V} {v:Value},(∀c,a.eval x≠.agg c)→a.eval x≠.nilIface→(binOp op xt (a.eval x) (a.eval y)).run P w=.ok v w→Rep w μ val v []→K val [] s.vw→QV P cx s nid w μ ow o a K:=
    fun h1 h2 h3 h4 h5=>QV.pure h (run_bin op xt yt x y ho h1 h2 h3) h4 (by simp) id h5
  generalize (s.ev x).un=vx at *;generalize (s.ev y).un=vy at *;generalize hax:a.eval x=ax at *;generalize hay:a.eval y=ay at *;unfold aBin at hk;split at hk
  · rename_i k m k' n
    cases rx;cases ry;obtain ⟨hkk,hk⟩:=hk;cases op<;>simp only [reduceCtorEq,false_or,true_or,or_true] at hk hkk<;>(try subst hkk)
    case shl=>exact fin (v:=.int k (k.wrap (m * 2 ^ min n.toNat k.bits))) (by simp) (by simp) (by simp [binOp,Op.shift,Int.not_lt.2 (hk.1 trivial)]) (.int _ _) hk.2
    case shr=>exact fin (v:=.int k (m.fdiv (2 ^ min n.toNat k.bits))) (by simp) (by simp) (by simp [binOp,Op.shift,Int.not_lt.2 (hk.1 trivial)]) (.int _ _) hk.2
    case and=>exact fin (v:=.int k (k.wrap ((BitVec.ofInt k.bits m &&& BitVec.ofInt k.bits n).toNat:Int))) (by simp) (by simp) (by simp [binOp,Op.intBits]) (.int _ _) hk
    case add=>exact fin (v:=.int k (k.wrap (m+n))) (by simp) (by simp) (by simp [binOp,Op.intArith]) (.int _ _) hk
    case sub=>exact fin (v:=.int k (k.wrap (m - n))) (by simp) (by simp) (by simp [binOp,Op.intArith]) (.int _ _) hk
    case mul=>exact fin (v:=.int k (k.wrap (m * n))) (by simp) (by simp) (by simp [binOp,Op.intArith]) (.int _ _) hk
    case quo=>exact fin (v:=.int k (k.wrap (m.tdiv n))) (by simp) (by simp) (by simp [binOp,Op.intDiv,hk.1 trivial]) (.int _ _) hk.2
    case rem=>exact fin (v:=.int k (m.tmod n)) (by simp) (by simp) (by simp [binOp,Op.intDiv,hk.1 trivial]) (.int _ _) hk.2
    case eql=>exact fin (v:=.bool (decide (m=n))) (by simp) (by simp) (by simp [binOp,Op.intCmp,beq_int]) (.bool _) hk
    case neq=>exact fin (v:=.bool (!decide (m=n))) (by simp) (by simp) (by simp [binOp,Op.intCmp,bne,beq_int]) (.bool _) hk
    case lss=>exact fin (v:=.bool (decide (m < n))) (by simp) (by simp) (by simp [binOp,Op.intCmp]) (.bool _) hk
    case leq=>exact fin (v:=.bool (decide (m≤n))) (by simp) (by simp) (by simp [binOp,Op.intCmp]) (.bool _) hk
    case gtr=>exact fin (v:=.bool (decide (n < m))) (by simp) (by simp) (by simp [binOp,Op.intCmp]) (.bool _) hk
    case geq=>exact fin (v:=.bool (decide (n≤m))) (by simp) (by simp) (by simp [binOp,Op.intCmp]) (.bool _) hk
  · rename_i m n
    cases rx;cases ry;cases op<;>simp only [] at hk
    case add=>exact fin (v:=.string (m++n)) (by simp) (by simp) (by simp_all[run_string_add_sum,trivial,binOp]) (.str _) hk.2
    case eql=>exact fin (v:=.bool (decide (m=n))) (by simp) (by simp) (by simp [binOp,Op.stringOp,beq_toList]) (.bool _) hk
    case neq=>exact fin (v:=.bool (!decide (m=n))) (by simp) (by simp) (by simp [binOp,Op.stringOp,beq_toList]) (.bool _) hk
    case lss=>exact fin (v:=.bool (strLt m n)) (by simp) (by simp) (by rfl) (.bool _) hk
    case leq=>exact fin (v:=.bool (strLt m n || decide (m=n))) (by simp) (by simp) (by simp [binOp,Op.stringOp,strLt,beq_toList]) (.bool _) hk
    case gtr=>exact fin (v:=.bool (!(strLt m n || decide (m=n)))) (by simp) (by simp) (by simp [binOp,Op.stringOp,strLt,beq_toList]) (.bool _) hk
    case geq=>exact fin (v:=.bool (!strLt m n)) (by simp) (by simp) (by rfl) (.bool _) hk
  · rename_i m n
    cases rx;cases ry;obtain ⟨ht,hk⟩:=hk;cases op<;>simp only [] at hk
    case eql=>exact fin (by simp) (by simp) (run_eql_bool w xt m n ht) (.bool _) hk
    case neq=>exact fin (by simp) (by simp) (run_neq_bool w xt m n ht) (.bool _) hk
  · rename_i as bs
    split at hk
    · rename_i ks hks
      obtain ⟨⟨fa,fb⟩,hk⟩:=hk;cases rx with
      | agg _ us _ ra _=>
      cases ry with
      | agg _ vs _ rb _=>
        unfold eqT at hks;split at hks
        · rename_i fs hfs
          split at hks
          · rename_i hc
            have hst:P.underlying xt=some (.struct (P.fieldsOf xt)):=by simp [Program.fieldsOf,hfs]
            have hfe:(P.fieldsOf xt).toList=fs.toList:=by grind
            have heq:(Op.equalIn 10000 xt (.agg us.toArray) (.agg vs.toArray)).run P w=.ok (cellsEq as bs) w:=by
              grind[run_equalIn_struct,eqFields_run]
            have run:∀{r:Value},(binOp op xt (.agg us.toArray) (.agg vs.toArray)).run P w=.ok r w→(execOp a.eval o).run P w=.ok (.value r) w:=by
              simp_all[execOp,run_v,Sem.run_bind,run_eqGuard_agg]
            cases op<;>simp only [] at hk
            case eql=>exact QV.pure h (run (by simp_all[run_eql_struct])) (.bool _) (by simp) id hk
            case neq=>exact QV.pure h (run (by simp_all[run_neq_struct])) (.bool _) (by simp) id hk
            all_goals exact hk.elim
          grind
        grind
    grind
  grind
/- the plain ones -/
theorem run_op_v {m:Sem Value} {v:Value} {w':World} (he:execOp a.eval o=(do Pure.pure (Next.value (←m)):Sem Next)) (h:m.run P w=.ok v w') :
    (execOp a.eval o).run P w=.ok (.value v) w':=by simp_all
def nilLoc:Loc:=⟨0,0,1,0,0,false⟩
theorem settleL_new:∀(cs:List V) (nid j:Nat) (bk:Blk),(settleL nid cs).2[j]? =some bk→bk=.arr [] .flat
  | [],_,j,bk,h=>by simp [settleL] at h
  | c::cs,nid,j,bk,h=>by
    cases c<;>simp only [settleL] at h<;>try exact settleL_new cs _ j bk h
    cases j with
    | zero=>grind
    | succ j=>exact settleL_new cs _ j bk (by simpa using h)
theorem settleL_rep {μ':Nat→Option Loc} (hm:MLe μ μ'):∀{cs:List V} {vs:List Value} {bl:List Nat},RepL w μ cs vs bl→∀nid:Nat,
    (∀j,j < (settleL nid cs).2.length→μ' (nid+j)=some nilLoc)→RepL w μ' (settleL nid cs).1 vs bl
  | _,_,_,.nil,nid,_=>.nil
  | c::cs,_,_,.cons _ x bl _ xs bl' h ht,nid,hl=>by
    cases c<;>simp only [settleL] at hl⊢<;>try exact .cons _ _ _ _ _ _ (h.keep hm fun _ _=>rfl) (settleL_rep hm ht nid hl)
    cases h;refine .cons _ _ [] _ _ _ (.ref nid nilLoc _ (hl 0 (by simp)) (.nil _ rfl rfl)) (settleL_rep hm ht (nid+1) fun j hj=> ?_);have:=hl (j+1) (by grind)
    grind
theorem settle_new {v:V} {nid j:Nat} {bk:Blk} (h:(settle nid v).2[j]? =some bk):bk=.arr [] .flat:=by
  cases v<;>simp only [settle] at h<;>try (simp at h;done)
  · grind
  grind[settleL_new]
theorem settle_rep {μ':Nat→Option Loc} (hm:MLe μ μ') {v:V} {x:Value} {bl:List Nat} (h:Rep w μ v x bl) (hl:∀j,j < (settle nid v).2.length→μ' (nid+j)=some nilLoc) :
    Rep w μ' (settle nid v).1 x bl:=by
  cases v<;>simp only [settle] at hl⊢<;>try exact h.keep hm fun _ _=>rfl
  · cases h;exact .ref nid nilLoc _ (hl 0 (by simp)) (.nil _ rfl rfl)
  · cases h with
    | agg _ vs _ hl' h1=>exact .agg _ _ _ (settleL_rep hm hl' nid hl) h1
theorem blk_nil {cx:Cx} {w:World} {μ:Nat→Option Loc} {ow:Ow} {vw:Bool} {id:Nat} (h:μ id=some nilLoc):BlkOK cx w μ ow vw id (.arr [] .flat):=
  ⟨nilLoc,h,rfl,.inl ⟨rfl,rfl⟩⟩
theorem Gives.settle (h:Sup cx s a w μ ow) {v:Value} {val:V} {bl:List Nat} (hr:Rep w μ val v bl) (hb:∀b∈bl,VOK cx ow s.vw b) :
    Gives cx s nid w μ ow v w (Vm.settle nid val).1 (Vm.settle nid val).2 s.vw:=by
  refine ⟨Ext.refl w,id,List.replicate (Vm.settle nid val).2.length nilLoc,ow,by simp,fun _ _=>rfl,fun _ _=>rfl,h.owl,fun μ' hm hl=> ?_⟩;have hl':∀j,j < (Vm.settle nid val).2.length→μ' (nid+j)=some nilLoc:=fun j hj=>hl j nilLoc (by grind)
  refine ⟨⟨bl,settle_rep hm hr hl',hb⟩,fun j bk e=> ?_⟩
  grind[Vm.settle,Nat.lt_or_ge,List.getElem?_eq_none,settle_new,blk_nil]
theorem move_sound (h:Sup cx s a w μ ow) (x:Operand) (ho:o.op=.move x) (hk:K (s.ev x) [] s.vw):QV P cx s nid w μ ow o a K:=by
  obtain ⟨bl,hr,hb⟩:=h.ev x;exact QV.pure h (by simp_all[execOp]) hr hb id hk
theorem assign_sound (h:Sup cx s a w μ ow) (x:Operand) (ho:o.op=.assign x) (hk:K (settle nid (s.ev x)).1 (settle nid (s.ev x)).2 s.vw):QV P cx s nid w μ ow o a K:=by
  obtain ⟨bl,hr,hb⟩:=h.ev x;exact ⟨_,w,_,_,_,by simp_all[execOp],Gives.settle h hr hb,hk⟩
theorem rep_pickV {t:Bool} {x y:V} {u v:Value} {bx by_:List Nat} (hx:t=true→Rep w μ x u bx) (hy:t=false→Rep w μ y v by_) :
    ∃bl,Rep w μ (pickV t x y) (if t then u else v) bl∧(∀b∈bl,(t=true∧b∈bx)∨(t=false∧b∈by_)):=by
  cases t with
  | true=>
    have hx:=hx rfl;refine ⟨bx,?_,fun b hb=>.inl ⟨rfl,hb⟩⟩;cases x<;>cases y<;>exact hx
  | false=>
    have hy:=hy rfl;refine ⟨by_,?_,fun b hb=>.inr ⟨rfl,hb⟩⟩;cases x<;>cases y<;>exact hy
theorem pick_sound (h:Sup cx s a w μ ow) (c x y:Operand) (t:Bool) (ho:o.op=.pick c x y) (hc:(s.ev c).un=.bool t)
    (hg:(s.ev c).gd=true∧(t=true→(s.ev x).gd=true)∧(t=false→(s.ev y).gd=true)) (hk:K (pickV t (s.ev x).un (s.ev y).un) [] s.vw):QV P cx s nid w μ ow o a K:=by
  obtain ⟨bc,rc,_⟩:=h.evu c hg.1;rw [hc] at rc;have ec:a.eval c=.bool t:=rc.bool_inv;have run:(execOp a.eval o).run P w=.ok (.value (if t then a.eval x else a.eval y)) w:=by
    unfold execOp;rw [ho];simp only [ec];rfl
  cases t with
  | true=>
    obtain ⟨bx,rx,vx⟩:=h.evu x (hg.2.1 rfl);obtain ⟨bl,hr,hb⟩:=rep_pickV (t:=true) (y:=(s.ev y).un) (v:=a.eval y) (by_:=[]) (fun _=>rx) (fun e=>by cases e);refine QV.pure h run hr (fun b hbb=> ?_) id hk
    grind
  | false=>
    obtain ⟨bx,rx,vx⟩:=h.evu y (hg.2.2 rfl);obtain ⟨bl,hr,hb⟩:=rep_pickV (t:=false) (x:=(s.ev x).un) (u:=a.eval x) (bx:=[]) (fun e=>by cases e) (fun _=>rx);refine QV.pure h run hr (fun b hbb=> ?_) id hk
    grind
theorem un_sound (h:Sup cx s a w μ ow) (op:UnOp) (t:TypeId) (x:Operand) (ho:o.op=.unOp op t x) (hg:(s.ev x).gd=true) (hk:aUn op s.vw K (s.ev x).un):QV P cx s nid w μ ow o a K:=by
  obtain ⟨bx,rx,_⟩:=h.evu x hg;generalize (s.ev x).un=vx at *;unfold aUn at hk;split at hk
  · obtain ⟨rfl,hk⟩:=hk
    rename_i b;have e:a.eval x=.bool b:=rx.bool_inv;exact QV.pure (v:=.bool (!b)) h (run_op_v (by unfold execOp;rw [ho]) (by rw [e];rfl)) (.bool _) (by simp) id hk
  · obtain ⟨rfl,hk⟩:=hk
    rename_i k n;have e:a.eval x=.int k n:=rx.int_inv;exact QV.pure (v:=.int k (k.wrap (0 - n))) h (run_op_v (by unfold execOp;rw [ho]) (by rw [e];rfl)) (.int _ _) (by simp) id hk
  grind
theorem nil_sound (h:Sup cx s a w μ ow) (x:Operand) (ho:o.op=.nilCheck x) (hg:(s.ev x).gd=true)
    (hk:match (s.ev x).un with | .ptr id i off=>K (.ptr id i off) [] s.vw | .pv xs i off=>K (.pv xs i off) [] s.vw | _=>False):QV P cx s nid w μ ow o a K:=by
  obtain ⟨bx,rx,hb⟩:=h.evu x hg;generalize (s.ev x).un=vx at *;split at hk
  · have e:∃ad,a.eval x=.pointer (some ad):=by obtain ⟨l,_,_,e⟩:=rx.ptr_inv;grind
    obtain ⟨ad,e⟩:=e;exact QV.pure (v:=a.eval x) h (by simp_all[execOp]) rx hb id hk
  · have e:∃ad,a.eval x=.pointer (some ad):=by obtain ⟨_,_,_,_,_,_,_,_,_,_,_,_,e⟩:=rx.pv_inv;grind
    obtain ⟨ad,e⟩:=e;exact QV.pure (v:=a.eval x) h (by simp_all[execOp]) rx hb id hk
  grind
theorem convertInt_sound (h:Sup cx s a w μ ow) (src dst:TypeId) (x:Operand) (ho:o.op=.convert src dst x) (hg:(s.ev x).gd=true) (hs:(P.underlying src).isSome=true)
    (k k':IntKind) (n:Int) (hd:P.underlying dst=some (.int k)) (hx:(s.ev x).un=.int k' n) (hk:K (.int k (k.wrap n)) [] s.vw):QV P cx s nid w μ ow o a K:=by
  obtain ⟨bx,rx,hb⟩:=h.evu x hg;rw [hx] at rx
  · have e:a.eval x=.int k' n:=rx.int_inv
    have hk0:P.intKind dst=k:=by simp [Program.intKind,hd]
    have hr:=run_convert_int (P:=P) w src dst k' n hs (by grind);rw [hk0] at hr;exact QV.pure (v:=.int k (k.wrap n)) h (run_op_v (by unfold execOp;rw [ho]) (by grind)) (.int _ _) (by simp) id hk
theorem makeFunc_sound (h:Sup cx s a w μ ow) (f:FuncId) (first cap:Array Operand) (ho:o.op=.makeFunc (.func f) first cap) (h0:first.size=0) (hk:K (.fn f (cap.toList.map s.ev)) [] s.vw):QV P cx s nid w μ ow o a K:=by
  have e:first=#[]:=Array.eq_empty_of_size_eq_zero h0;subst e;have key:∀l:List Operand,∃bl,RepL w μ (l.map s.ev) (l.map a.eval) bl∧∀b∈bl,VOK cx ow s.vw b:=by
    intro l
    induction l with
    | nil=>exact ⟨[],.nil,by simp⟩
    | cons x l ih=>
      obtain ⟨bl,h1,h2⟩:=ih;obtain ⟨bx,r1,r2⟩:=h.ev x;exact ⟨bx++bl,.cons _ _ _ _ _ _ r1 h1,fun b hb=>(qll.1 hb).elim (r2 b) (h2 b)⟩
  obtain ⟨bl,h1,h2⟩:=key cap.toList;refine QV.pure (v:=.func (.func f) #[] (cap.map a.eval)) h (run_op_v (by unfold execOp;rw [ho]) (by simp [Instr.makeFunc])) (bl:=bl) ?_ h2 id hk;have:=Rep.fn (w:=w) (μ:=μ) f _ _ _ h1;have e:(List.map a.eval cap.toList).toArray=cap.map a.eval:=by grind
  grind
theorem extract_sound (h:Sup cx s a w μ ow) (x:Operand) (i:Nat) (ho:o.op=.extract x i) (hg:(s.ev x).gd=true) (hk:aExtract s.vw i K (s.ev x).un):QV P cx s nid w μ ow o a K:=by
  obtain ⟨bx,rx,hb⟩:=h.evu x hg;generalize (s.ev x).un=vx at *;unfold aExtract at hk;split at hk
  · rename_i vs
    obtain ⟨hi,hk⟩:=hk;generalize hq:a.eval x=q at rx;cases rx with
    | tup _ xs _ hl=>
      obtain ⟨v,b,h1,h2,h3⟩:=hl.get i (vs.getD i .any) (by grind);exact QV.pure h (run_op_v (by unfold execOp;rw [ho]) (by simp_all[Instr.extract])) h2 (fun y hy=>hb y (h3 y hy)) id hk
  grind
end
end Go.Vm
