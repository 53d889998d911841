/- The value machine, part 3. -/
import Derived.Lib.ItoaNum
import Derived.Test.YtmhaafinhpopmaaGreatUmB
set_option linter.unusedSimpArgs false
set_option linter.unusedVariables false
set_option linter.defProp false
namespace Go.Vm
open Go
def Blk.kindIs (p:Kd→Bool):Blk→Bool
  | .dead=>true
  | .arr _ k=>p k
  | .box _ k=>p k
  | .hid _ _=>false
theorem KdOK.tabs {w:World} {o v:Nat→Prop} {m:Nat→Option Loc} {T T':List (Nat×(Array Value→Prop))} {ow:Ow} {vw:Bool} {id:Nat} {bl:List Nat} {k:Kd} (h:KdOK ⟨w,o,v,m,T⟩ ow vw id bl k):KdOK ⟨w,o,v,m,T'⟩ ow vw id bl k:=by
  cases k<;>exact h
theorem RowOK.tabs {w:World} {o v:Nat→Prop} {m:Nat→Option Loc} {T T':List (Nat×(Array Value→Prop))} {w':World} {μ:Nat→Option Loc} {ow:Ow} {vw:Bool} {id:Nat} {xs:List V} {k:Kd} (h:RowOK ⟨w,o,v,m,T⟩ w' μ ow vw id xs k):RowOK ⟨w,o,v,m,T'⟩ w' μ ow vw id xs k:=by
  obtain ⟨l,h1,h2,h3 | ⟨h3,h4,bl,h5,h6,h7⟩⟩:=h
  · exact ⟨l,h1,h2,.inl h3⟩
  · exact ⟨l,h1,h2,.inr ⟨h3,h4,bl,h5,h6.tabs,h7⟩⟩
theorem BlkOK.tabs {w:World} {o v:Nat→Prop} {m:Nat→Option Loc} {T T':List (Nat×(Array Value→Prop))} {w':World} {μ:Nat→Option Loc} {ow:Ow} {vw:Bool} {id:Nat} {bk:Blk} (h:BlkOK ⟨w,o,v,m,T⟩ w' μ ow vw id bk):BlkOK ⟨w,o,v,m,T'⟩ w' μ ow vw id bk:=by
  cases bk with
  | dead=>trivial
  | arr xs k=>exact RowOK.tabs h
  | box x k=>exact RowOK.tabs h
  | hid j n=>exact h
theorem Frame.tabs {w:World} {o v:Nat→Prop} {m:Nat→Option Loc} {T:List (Nat×(Array Value→Prop))} {w':World} (h:Frame ⟨w,o,v,m,T⟩ w'):Frame ⟨w,o,v,m,[]⟩ w':=
  ⟨h.size,h.old,h.os,h.tape,h.output,h.ice,fun _ hp=>nomatch hp⟩
def isPow (c:Array Value):Prop:=c=(Lib.pow10Tab.map fun z=>Value.int .u64 z).toArray
def isErr (c:Array Value):Prop:=∃te pe,c=#[.iface te pe]
def tabAt (P:Program) (n:String) (p:Array Value→Prop):List (Nat×(Array Value→Prop)):=match P.globalNamed n with
  | some g=>[(g,p)]
  | none=>[]
def tabsOf (P:Program):List (Nat×(Array Value→Prop)):=tabAt P "internal/strconv.uint64pow10" isPow++(tabAt P "strconv.ErrSyntax" isErr++tabAt P "strconv.ErrRange" isErr)
def TabsIn (w:World) (l:List (Nat×(Array Value→Prop))):Prop:=∀p∈l,∃c t fr,w.heap[p.1]? =some (.cells c t fr)∧p.2 c
structure Inp (P:Program) (w:World) (vals:Array Value) (args:List V) (O:List Blk) (μ:Nat→Option Loc) (ow:Ow) (vis:Nat→Prop):Prop where
  sz:vals.size=args.length
  arg:∀i V,args[i]? =some V→∃bl,Rep w μ V (vals.getD i undef) bl∧∀b∈bl,ow b=none∧vis b
  blk:∀id bk,O[id]? =some bk→BlkOK ⟨w,fun b=>ow b≠none,vis,μ,[]⟩ w μ ow false id bk
  dom:∀id,O.length≤id→μ id=none
  owl:∀b,ow b≠none→Live w b
  tab:∀p∈tabsOf P,ow p.1=none∧∃c t fr,w.heap[p.1]? =some (.cells c t fr)∧p.2 c
structure Out (w:World) (O:List Blk) (μ:Nat→Option Loc) (ow:Ow) (vis:Nat→Prop) (r:V) (O':List Blk) (v:Value) (w':World) (μ':Nat→Option Loc) (ow':Ow):Prop where
  rep:∃bl,Rep w' μ' r v bl∧∀b∈bl,ow' b=none∧(vis b∨ow b≠none∨w.heap.size≤b)
  blk:∀id bk,O'[id]? =some bk→BlkOK ⟨w,fun b=>ow b≠none,vis,μ,[]⟩ w' μ' ow' false id bk
  nomix:∀bk∈O',bk.kindIs (fun k=>k.nm)=true
  same:MLe μ μ'
  len:O.length≤O'.length
  dom:∀id,O'.length≤id→μ' id=none
  owl:∀b,ow' b≠none→Live w' b
  own:∀b,ow' b≠none→ow b≠none∨w.heap.size≤b
  frm:Frame ⟨w,fun b=>ow b≠none,vis,μ,[]⟩ w'
theorem cells_room {w:World} {μ:Nat→Option Loc} {l:Loc} {xs:List V} {bl:List Nat} (h:Cells w μ l xs bl) {n:Nat} (hn:n≤l.off+l.cap * l.sz):Room w l.b n:=by
  obtain ⟨cc,tt,_,g1,g2,_⟩:=h.row;exact ⟨cc,tt,_,g1,by omega⟩
def Con (P:Program) (f:FuncId) (args:List V) (O:List Blk) (r:V) (O':List Blk):Prop:=
  (∃fn,P.funcs[f]? =some fn∧(fn.name == "runtime.NumGoroutine")=false∧fn.body.isNone=false)∧∀(w:World) (vals:Array Value) (μ:Nat→Option Loc) (ow:Ow) (vis:Nat→Prop),Inp P w vals args O μ ow vis→
    Calls P f vals w fun e w'=>∃v μ' ow',e=.returned v∧Out w O μ ow vis r O' v w' μ' ow'
def ConX (P:Program) (f:FuncId) (args:List V) (O:List Blk) (R:V→List Blk→Prop):Prop:=
  (∃fn,P.funcs[f]? =some fn∧(fn.name == "runtime.NumGoroutine")=false∧fn.body.isNone=false)∧∀(w:World) (vals:Array Value) (μ:Nat→Option Loc) (ow:Ow) (vis:Nat→Prop),Inp P w vals args O μ ow vis→
    Calls P f vals w fun e w'=>∃r O',R r O'∧∃v μ' ow',e=.returned v∧Out w O μ ow vis r O' v w' μ' ow'
def isR (r:V) (O':List Blk):V→List Blk→Prop:=fun r' O''=>r'=r∧O''=O'
theorem Con.x {P:Program} {f:FuncId} {args:List V} {O:List Blk} {r:V} {O':List Blk} (h:Con P f args O r O'):ConX P f args O (isR r O'):=
  ⟨h.1,fun w vals μ ow vis hi=>(h.2 w vals μ ow vis hi).mono fun _ _ q=>⟨r,O',⟨rfl,rfl⟩,q⟩⟩
theorem ConX.mono {P:Program} {f:FuncId} {args:List V} {O:List Blk} {R R':V→List Blk→Prop} (h:ConX P f args O R) (hr:∀r O',R r O'→R' r O'):ConX P f args O R':=
  ⟨h.1,fun w vals μ ow vis hi=>(h.2 w vals μ ow vis hi).mono fun _ _ ⟨r,O',q,z⟩=>⟨r,O',hr r O' q,z⟩⟩
mutual
def V.only (p:Nat→Bool):V→Bool
  | .ref id=>p id
  | .sub id _ _=>p id
  | .ptr id _ _=>p id
  | .fn _ cs=>V.onlyL p cs
  | .agg cs=>V.onlyL p cs
  | .tup cs=>V.onlyL p cs
  | .opt _ v=>V.only p v
  | .int _ _=>true
  | .bool _=>true
  | .str _=>true
  | .nsl=>true
  | .sl _=>true
  | .pv _ _ _=>true
  | .npt=>true
  | .nfn=>true
  | .any=>true
def V.onlyL (p:Nat→Bool):List V→Bool
  | []=>true
  | v::vs=>V.only p v && V.onlyL p vs
end
section
variable {w:World} {μ:Nat→Option Loc}
mutual
theorem Rep.only {p:Nat→Bool} {μ':Nat→Option Loc} (hp:∀id l,p id=true→μ id=some l→μ' id=some l):∀{v:V} {x:Value} {bl:List Nat},Rep w μ v x bl→v.only p=true→Rep w μ' v x bl
  | _,_,_,.int k n,_=>.int k n
  | _,_,_,.bool b,_=>.bool b
  | _,_,_,.str s,_=>.str s
  | _,_,_,.nsl a,_=>.nsl a
  | _,_,_,.sl0 a c,_=>.sl0 a c
  | _,_,_,.sl xs b off c sz vs bl h0 hc hs hz hl h1 hr,_=>.sl xs b off c sz vs bl h0 hc hs hz hl h1 hr
  | _,_,_,.ref id l v h hd,ho=>.ref id l v (hp _ _ (by rw [V.only] at ho;exact ho) h) hd
  | _,_,_,.sub id lo n l h hr hn,ho=>.sub id lo n l (hp _ _ (by rw [V.only] at ho;exact ho) h) hr hn
  | _,_,_,.sub0 id lo l a h hn,ho=>.sub0 id lo l a (hp _ _ (by rw [V.only] at ho;exact ho) h) hn
  | _,_,_,.ptr id i off l h hi,ho=>.ptr id i off l (hp _ _ (by rw [V.only] at ho;exact ho) h) hi
  | _,_,_,.pv xs i off b o sz vs bl hi hs hz hl h1 hr,_=>.pv xs i off b o sz vs bl hi hs hz hl h1 hr
  | _,_,_,.npt,_=>.npt
  | _,_,_,.fn f cs vs bl hl,ho=>.fn f cs vs bl (RepL.only hp hl (by rw [V.only] at ho;exact ho))
  | _,_,_,.nfn,_=>.nfn
  | _,_,_,.agg cs vs bl hl h1,ho=>.agg cs vs bl (RepL.only hp hl (by rw [V.only] at ho;exact ho)) h1
  | _,_,_,.tup cs vs bl hl,ho=>.tup cs vs bl (RepL.only hp hl (by rw [V.only] at ho;exact ho))
  | _,_,_,.optT v x bl h,ho=>.optT v x bl (Rep.only hp h (by rw [V.only] at ho;exact ho))
  | _,_,_,.optF v,_=>.optF v
  | _,_,_,.any x,_=>.any x
theorem RepL.only {p:Nat→Bool} {μ':Nat→Option Loc} (hp:∀id l,p id=true→μ id=some l→μ' id=some l):∀{vs:List V} {xs:List Value} {bl:List Nat},RepL w μ vs xs bl→V.onlyL p vs=true→RepL w μ' vs xs bl
  | _,_,_,.nil,_=>.nil
  | _,_,_,.cons v x bl vs xs bl' h ht,ho=>by
    rw [V.onlyL,qlo] at ho;exact .cons v x bl vs xs bl' (Rep.only hp h ho.1) (RepL.only hp ht ho.2)
end
end
theorem only_cells {p:Nat→Bool} {v:V} (h:v.only p=true):V.onlyL p v.cells=true:=by
  cases v<;>simp_all [V.only,V.cells,V.onlyL]
theorem onlyL_append {p:Nat→Bool}:∀{a b:List V},V.onlyL p a=true→V.onlyL p b=true→V.onlyL p (a++b)=true
  | [],_,_,h=>h
  | v::a,b,h,h2=>by
    rw [V.onlyL,qlo] at h;rw [List.cons_append,V.onlyL,h.1,onlyL_append h.2 h2];rfl
theorem onlyL_flat {p:Nat→Bool}:∀{l:List V},V.onlyL p l=true→V.onlyL p (l.flatMap V.cells)=true
  | [],_=>by rw [List.flatMap_nil,V.onlyL]
  | v::l,h=>by
    rw [V.onlyL,qlo] at h;rw [qlz];exact onlyL_append (only_cells h.1) (onlyL_flat h.2)
def ConS (P:Program) (f:FuncId) (args:List V) (O O':List Blk):Prop:=
  (∃fn,P.funcs[f]? =some fn∧(fn.name == "runtime.NumGoroutine")=false∧fn.body.isNone=false)∧∀(w:World) (vals:Array Value) (μ:Nat→Option Loc) (ow:Ow) (vis:Nat→Prop),Inp P w vals args O μ ow vis→
    Calls P f vals w fun e w'=>∃v μ' ow',e=.returned v∧(∀id bk,O'[id]? =some bk→BlkOK ⟨w,fun b=>ow b≠none,vis,μ,[]⟩ w' μ' ow' false id bk)∧MLe μ μ'∧
      (∀id,O'.length≤id→μ' id=none)∧(∀b,ow' b≠none→Live w' b)∧(∀b,ow' b≠none→ow b≠none∨w.heap.size≤b)∧Frame ⟨w,fun b=>ow b≠none,vis,μ,[]⟩ w'
def Blk.okS (p:Nat):Blk→Bool
  | .dead | .hid _ _=>false
  | .arr xs k=>k.nm || (k == .mix && V.onlyL (fun id=>Nat.blt id p) xs)
  | .box x k=>k.nm || (k == .mix && V.onlyL (fun id=>Nat.blt id p) [x])
mutual
def V.ren (ρ:Nat→Nat):V→V
  | .ref id=>.ref (ρ id)
  | .sub id lo n=>.sub (ρ id) lo n
  | .ptr id i off=>.ptr (ρ id) i off
  | .fn f cs=>.fn f (V.renL ρ cs)
  | .agg cs=>.agg (V.renL ρ cs)
  | .tup cs=>.tup (V.renL ρ cs)
  | .opt g v=>.opt g (V.ren ρ v)
  | .int k n=>.int k n
  | .bool b=>.bool b
  | .str b=>.str b
  | .nsl=>.nsl
  | .sl xs=>.sl xs
  | .pv xs i off=>.pv xs i off
  | .npt=>.npt
  | .nfn=>.nfn
  | .any=>.any
def V.renL (ρ:Nat→Nat):List V→List V
  | []=>[]
  | v::vs=>V.ren ρ v::V.renL ρ vs
end
mutual
theorem Rep.ren {w:World} {μ μ2:Nat→Option Loc} {ρ:Nat→Nat} (h2:∀id l,μ id=some l→μ2 (ρ id)=some l):∀{v:V} {x:Value} {bl:List Nat},Rep w μ v x bl→Rep w μ2 (v.ren ρ) x bl
  | _,_,_,.int k n=>by rw [V.ren];exact .int k n
  | _,_,_,.bool b=>by rw [V.ren];exact .bool b
  | _,_,_,.str s=>by rw [V.ren];exact .str s
  | _,_,_,.nsl a=>by rw [V.ren];exact .nsl a
  | _,_,_,.sl0 a c=>by rw [V.ren];exact .sl0 a c
  | _,_,_,.sl xs b off c sz vs bl h0 hc hs hz hl h1 hr=>by rw [V.ren];exact .sl xs b off c sz vs bl h0 hc hs hz hl h1 hr
  | _,_,_,.ref id l v h hd=>by rw [V.ren];exact .ref _ l v (h2 _ _ h) hd
  | _,_,_,.sub id lo n l h hr hn=>by rw [V.ren];exact .sub _ lo n l (h2 _ _ h) hr hn
  | _,_,_,.sub0 id lo l a h hn=>by rw [V.ren];exact .sub0 _ lo l a (h2 _ _ h) hn
  | _,_,_,.ptr id i off l h hi=>by rw [V.ren];exact .ptr _ i off l (h2 _ _ h) hi
  | _,_,_,.pv xs i off b o sz vs bl hi hs hz hl h1 hr=>by rw [V.ren];exact .pv xs i off b o sz vs bl hi hs hz hl h1 hr
  | _,_,_,.npt=>by rw [V.ren];exact .npt
  | _,_,_,.fn f cs vs bl hl=>by rw [V.ren];exact .fn f _ vs bl (RepL.ren h2 hl)
  | _,_,_,.nfn=>by rw [V.ren];exact .nfn
  | _,_,_,.agg cs vs bl hl h1=>by rw [V.ren];exact .agg _ vs bl (RepL.ren h2 hl) h1
  | _,_,_,.tup cs vs bl hl=>by rw [V.ren];exact .tup _ vs bl (RepL.ren h2 hl)
  | _,_,_,.optT v x bl h=>by rw [V.ren];exact .optT _ x bl (Rep.ren h2 h)
  | _,_,_,.optF v=>by rw [V.ren];exact .optF _
  | _,_,_,.any x=>by rw [V.ren];exact .any x
theorem RepL.ren {w:World} {μ μ2:Nat→Option Loc} {ρ:Nat→Nat} (h2:∀id l,μ id=some l→μ2 (ρ id)=some l):∀{vs:List V} {xs:List Value} {bl:List Nat},RepL w μ vs xs bl→RepL w μ2 (V.renL ρ vs) xs bl
  | _,_,_,.nil=>by rw [V.renL];exact .nil
  | _,_,_,.cons v x bl vs xs bl' h ht=>by rw [V.renL];exact .cons _ x bl _ xs bl' (Rep.ren h2 h) (RepL.ren h2 ht)
end
def idx (ls:List Nat) (id:Nat):Option Nat:=match ls with
  | []=>none
  | x::l=>bif Nat.beq x id then some 0 else (idx l id).map (·+1)
theorem idx_cons (x:Nat) (l:List Nat) (id:Nat):idx (x::l) id=bif Nat.beq x id then some 0 else (idx l id).map (·+1):=rfl
theorem idx_spec:∀{ls:List Nat} {id j:Nat},idx ls id=some j→ls[j]? =some id
  | [],_,_,h=>by simp [idx] at h
  | x ::l,id,j,h=>by
    unfold idx at h;cases e:Nat.beq x id with
    | true=>
      rw [e] at h;simp only [cond_true,Option.some.injEq] at h
      grind[Nat.eq_of_beq_eq_true]
    | false=>
      rw [e] at h;simp only [cond_false,Option.map_eq_some_iff] at h;obtain ⟨k,h1,rfl⟩:=h;simpa using idx_spec h1
theorem idx_mem:∀{ls:List Nat} {id:Nat},id∈ls→(idx ls id).isSome=true
  | [],_,h=>by grind
  | x ::l,id,h=>by
    unfold idx;cases e:Nat.beq x id with
    | true=>rfl
    | false=>
      have hne:¬x=id:=fun q=>by simp_all
      have:=idx_mem (ls:=l) (id:=id) ((ql0.1 h).resolve_left fun q=>hne q.symm)
      grind
def toCell (s:St) (ls:List Nat):V→Option V
  | .ref id=>match idx ls id with
    | some j=>some (.ref j)
    | none=>match s.row id with
      | some (xs,k)=>bif k.nm then some (.sl xs) else none
      | none=>none
  | .sub id lo n=>match idx ls id with
    | some _=>none
    | none=>match s.row id with
      | some (xs,k)=>bif k.nm then some (.sl ((xs.drop lo).take n)) else none
      | none=>none
  | .ptr id i off=>match idx ls id with
    | some j=>some (.ptr j i off)
    | none=>match s.row id with
      | some (xs,k)=>bif k.nm then some (.pv xs i off) else none
      | none=>none
  | .nsl=>match ls with
    | []=>some (.sl [])
    | _::_=>some .nsl
  | .agg _ | .tup _ | .opt _ _ | .any | .fn _ _=>none
  | v=>some v
def toCells (s:St) (ls:List Nat):List V→Option (List V)
  | []=>some []
  | c::cs=>match toCell s ls c,toCells s ls cs with
    | some c',some cs'=>some (c'::cs')
    | _,_=>none
def toRows (s:St):List V→Option (List V)
  | []=>some []
  | .agg cs::xs=>match toCells s [] cs,toRows s xs with
    | some cs',some xs'=>some (.agg cs'::xs')
    | _,_=>none
  | _=>none
def toArg (s:St) (ls:List Nat):V→Option V
  | .agg cs=>(toCells s ls cs).map .agg
  | .fn f cs=>(toCells s ls cs).map (.fn f)
  | .ptr id 0 off=>match toCell s ls (.ptr id 0 off) with
    | some v=>some v
    | none=>match ls,s.row id with
      | [],some ([.agg cs],.mix)=>(toCells s [] cs).map fun cs'=>.pv [.agg cs'] 0 off
      | _,_=>none
  | .ref id=>match toCell s ls (.ref id) with
    | some v=>some v
    | none=>match ls,s.row id with
      | [],some (x::xs,.mix)=>(toRows s (x::xs)).map .sl
      | _,_=>none
  | v=>toCell s ls v
def toArgs (s:St) (ls:List Nat):List V→Option (List V)
  | []=>some []
  | c::cs=>match toArg s ls c,toArgs s ls cs with
    | some c',some cs'=>some (c'::cs')
    | _,_=>none
def V.clean:V→Bool
  | .tup vs=>vs.all V.noSl
  | v=>v.noSl
def V.cold:V→Bool
  | .ref _ | .sub _ _ _ | .ptr _ _ _ | .opt _ _ | .tup _=>false
  | .agg cs=>cs.all fun c=>match c with | .ref _ | .sub _ _ _ | .ptr _ _ _ | .opt _ _ | .tup _ | .agg _ | .fn _ _=>false | _=>true
  | .fn _ cs=>cs.all fun c=>match c with | .ref _ | .sub _ _ _ | .ptr _ _ _ | .opt _ _ | .tup _ | .agg _ | .fn _ _=>false | _=>true
  | _=>true
def V.coldIn (ls:List Nat):V→Bool
  | .ptr id _ _=>(idx ls id).isSome
  | .ref id=>(idx ls id).isSome
  | v=>v.cold
def rho (ls:List Nat) (nid:Nat) (j:Nat):Nat:=if j < ls.length then ls.getD j 0 else nid+(j - ls.length)
def setBlks (O:List Blk) (ls:List Nat) (O':List Blk):List Blk:=
  match ls,O' with
  | id::ls,bk::O'=>setBlks (O.set id bk) ls O'
  | _,_=>O
def Packs (vw:Bool) (O O1:List Blk):Prop:=O1.length=O.length∧∀(cx:Cx) (env:List (Nat×V)) (n mask:Nat) (a:Act) (w:World) (μ:Nat→Option Loc) (ow:Ow),Rel cx ⟨env,O,vw,n,mask⟩ a w μ ow→
  ∃ow',Rel cx ⟨env,O1,vw,n,mask⟩ a w μ ow'∧∀b,VOK cx ow vw b→VOK cx ow' vw b
theorem Packs.trans {vw:Bool} {O O1 O2:List Blk} (h:Packs vw O O1) (k:Packs vw O1 O2):Packs vw O O2:=
  ⟨k.1.trans h.1,fun cx env n mask a w μ ow hr=>by
    obtain ⟨ow1,h1,h2⟩:=h.2 cx env n mask a w μ ow hr;obtain ⟨ow2,k1,k2⟩:=k.2 cx env n mask a w μ ow1 h1
    grind⟩
def aCall0 (P:Program) (s:St) (f:FuncId) (ls:List Nat) (args:List V) (K:V→St→Prop):Prop:=
  ∃ args' Ols R,toArgs s ls args=some args'∧ls.mapM (fun id=>s.O[id]?)=some Ols∧ls.Nodup∧(∀bk∈Ols,bk.kindIs (fun k=>k.nm)=true∧bk≠.dead)∧
    (s.vw=false∨∀bk∈Ols,bk.kindIs (fun k=>k == .flat)=true)∧
    ConX P f args' Ols R∧∀r O',R r O'→
    ((r.clean=true∧∀bk∈O',bk.kindIs (fun k=>k != .shal && k.nm)=true)∨(∀x∈args,x.coldIn ls=true))∧
    K (r.ren (rho ls s.O.length)) {s with O:=setBlks s.O ls O'++O'.drop ls.length}
def aCallS (P:Program) (s:St) (f:FuncId) (ls:List Nat) (args:List V) (K:V→St→Prop):Prop:=
  s.vw=false∧∃(p:Nat) (args':List V) (Ols O':List Blk),toArgs s ls args=some args'∧ls.mapM (fun id=>s.O[id]?)=some Ols∧ls.Nodup∧(∀j:Nat,j < p→ls[j]? =some j)∧(∀bk∈Ols,bk.okS p=true)∧
    O'.length=ls.length∧(∀bk∈O',bk.okS p=true)∧(∀x∈args,x.coldIn ls=true)∧ConS P f args' Ols O'∧K .any {s with O:=setBlks s.O ls O'}
def aCall (P:Program) (s:St) (f:FuncId) (ls:List Nat) (args:List V) (K:V→St→Prop):Prop:=
  aCallS P s f ls args K∨∃O1,(O1=s.O∨(ls≠[]∧Packs s.vw s.O O1))∧aCall0 P {s with O:=O1} f ls args K
theorem aCall0_of {P:Program} {s:St} {f:FuncId} {ls:List Nat} {args:List V} {K:V→St→Prop} {args':List V} {Ols:List Blk} {r:V} {O':List Blk} (h1:toArgs s ls args=some args') (h2:ls.mapM (fun id=>s.O[id]?)=some Ols) (h3:ls.Nodup)
    (h4:∀bk∈Ols,bk.kindIs (fun k=>k.nm)=true∧bk≠.dead) (h5:s.vw=false∨∀bk∈Ols,bk.kindIs (fun k=>k == .flat)=true) (h6:Con P f args' Ols r O')
    (h7:(r.clean=true∧∀bk∈O',bk.kindIs (fun k=>k != .shal && k.nm)=true)∨(∀x∈args,x.coldIn ls=true)) (h8:K (r.ren (rho ls s.O.length)) {s with O:=setBlks s.O ls O'++O'.drop ls.length}):aCall0 P s f ls args K:=
  ⟨args',Ols,isR r O',h1,h2,h3,h4,h5,h6.x,fun _ _ ⟨e1,e2⟩=>by grind⟩
theorem aCall_of {P:Program} {s:St} {f:FuncId} {ls:List Nat} {args:List V} {K:V→St→Prop} {args':List V} {Ols:List Blk} {r:V} {O':List Blk} (h1:toArgs s ls args=some args') (h2:ls.mapM (fun id=>s.O[id]?)=some Ols) (h3:ls.Nodup)
    (h4:∀bk∈Ols,bk.kindIs (fun k=>k.nm)=true∧bk≠.dead) (h5:s.vw=false∨∀bk∈Ols,bk.kindIs (fun k=>k == .flat)=true) (h6:Con P f args' Ols r O')
    (h7:(r.clean=true∧∀bk∈O',bk.kindIs (fun k=>k != .shal && k.nm)=true)∨(∀x∈args,x.coldIn ls=true)) (h8:K (r.ren (rho ls s.O.length)) {s with O:=setBlks s.O ls O'++O'.drop ls.length}):aCall P s f ls args K:=
  .inr ⟨s.O,.inl rfl,aCall0_of h1 h2 h3 h4 h5 h6 h7 h8⟩
theorem cold_in {x:V} {ls:List Nat} (h:x.cold=true):x.coldIn ls=true:=by
  cases x<;>first | exact h | (simp [V.cold] at h)
theorem idx_get:∀{ls:List Nat} {j id:Nat},ls.Nodup→ls[j]? =some id→idx ls id=some j
  | [],_,_,_,h=>by grind
  | x::l,0,id,_,h=>by
    simp_all[List.getElem?_cons_zero,Option.some.injEq,idx]
  | x ::l,j+1,id,hn,h=>by
    have hn':=List.nodup_cons.1 hn;have h':l[j]? =some id:=by grind
    have hne:Nat.beq x id=false:=by
      grind[Nat.beq,Nat.eq_of_beq_eq_true,absurd,List.mem_of_getElem?]
    unfold idx;rw [hne,cond_false,idx_get hn'.2 h'];rfl
theorem setBlks_get:∀(ls:List Nat) (O O':List Blk) (id:Nat),ls.Nodup→(∀x∈ls,x < O.length)→
    (setBlks O ls O')[id]? =match idx ls id with | some j=>(match O'[j]? with | some bk=>some bk | none=>O[id]?) | none=>O[id]?
  | [],O,O',id,_,_=>by simp [setBlks,idx]
  | x::ls,O,[],id,_,_=>by
    grind[setBlks,idx]
  | x ::ls,O,bk::O',id,hn,hl=>by
    have hn':=List.nodup_cons.1 hn;have ih:=setBlks_get ls (O.set x bk) O' id hn'.2 fun y hy=>by grind
    have hx:=hl x (qle ..);rw [setBlks,ih,idx_cons];cases e:Nat.beq x id with
    | true=>
      have e':=Nat.eq_of_beq_eq_true e;subst e';simp only [cond_true];cases q:idx ls x with
      | none=>grind
      | some j=>exact absurd (qlb (idx_spec q)) hn'.1
    | false=>
      have hne:¬x=id:=fun q=>by simp_all
      grind
theorem setBlks_len:∀(ls:List Nat) (O O':List Blk),(setBlks O ls O').length=O.length
  | [],O,O'=>by simp [setBlks]
  | x::ls,O,[]=>by rfl
  | x::ls,O,bk::O'=>by rw [setBlks,setBlks_len];simp
section
variable {P:Program} {cx:Cx} {s:St} {a:Act} {w:World} {μ:Nat→Option Loc} {ow:Ow}
def deepAt (s:St) (id:Nat):Bool:=match s.row id with | some (_,k)=>k == .deep | none=>false
def owC (s:St) (ls:List Nat) (ow:Ow):Ow:=fun b=>match ow b with
  | some (true,id)=>(idx ls id).map fun j=>(true,j)
  | some (false,id)=>bif deepAt s id then (idx ls id).map fun j=>(false,j) else none
  | none=>none
def muC (ls:List Nat) (μ:Nat→Option Loc):Nat→Option Loc:=fun j=>(ls[j]?).bind μ
theorem owC_ne {ls:List Nat} {b:Nat} (h:owC s ls ow b≠none):∃r id j,ow b=some (r,id)∧idx ls id=some j∧owC s ls ow b=some (r,j)∧(r=false→deepAt s id=true):=by
  unfold owC at *;split at h
  · rename_i id e
    cases q:idx ls id with
    | none=>grind
    | some j=>grind
  · rename_i id e
    cases q2:deepAt s id with
    | false=>grind
    | true=>
      cases q:idx ls id with
      | none=>grind
      | some j=>grind
  grind
theorem owC_view {ls:List Nat} {b:Nat} (hv:VOK cx ow s.vw b) (hf:s.vw=false∨∀id∈ls,deepAt s id=false):owC s ls ow b=none:=by
  cases e:owC s ls ow b with
  | none=>rfl
  | some q=>
    obtain ⟨r,id,j,h1,h2,_,h4⟩:=owC_ne (s:=s) (ow:=ow) (ls:=ls) (b:=b) (by grind);rcases hv.1 with h | ⟨hvw,id',h⟩
    · grind
    · rw [h] at h1
      simp only [Option.some.injEq,Prod.mk.injEq] at h1;obtain ⟨rfl,rfl⟩:=h1;rcases hf with hf | hf
      · grind
      · have:=hf id' (qlb (idx_spec h2))
        grind
theorem snap (h:Sup cx s a w μ ow) {ls:List Nat} {id:Nat} {xs:List V} {k:Kd} (hr:s.row id=some (xs,k)) (hk:k.nm=true) (hn:idx ls id=none)
    (hf:s.vw=false∨∀id∈ls,deepAt s id=false) :
    ∃l,μ id=some l∧l.n=xs.length∧((l.real=false∧xs=[])∨(l.real=true∧∃bl,Cells w M0 l xs bl∧∀b∈l.b::bl,owC s ls ow b=none)):=by
  obtain ⟨l,h1,h2,h3⟩:=h.row hr;refine ⟨l,h1,h2,?_⟩;rcases h3 with h3 | ⟨h3,h4,bl,h5,h6,h7⟩
  · grind
  · right
    have hmu:k.mu μ=M0:=by cases k<;>first | rfl | simp_all
    rw [hmu] at h5;refine ⟨h3,bl,h5,fun b hb=> ?_⟩;cases ql0.1 hb with
    | inl e=>grind[owC]
    | inr e=>
      cases k with
      | flat | thin=>have:bl=[]:=h6;grind
      | deep=>simp [owC,h6.2 b e,hn]
      | shal=>exact owC_view (h6 b e) hf
      | mix | part=>simp_all
theorem Cells.slRep {l:Loc} {xs:List V} {bl:List Nat} (h:Cells w M0 l xs bl) (lo n:Nat) (hn:lo+n≤xs.length) (hl:l.n=xs.length) :
    ∃bl',Rep w μ (.sl ((xs.drop lo).take n)) (.slice (some ⟨l.b,l.off+lo * l.sz,none⟩) n (l.cap - lo)) bl'∧∀b∈bl',b∈l.b::bl:=by
  obtain ⟨vs,c1,c2,c3⟩:=h.rowOf;have hle:=h.le;have hlen:((xs.drop lo).take n).length=n:=by grind
  by_cases h0:n=0
  · subst h0
    refine ⟨[],?_,by simp⟩;rw [List.take_zero];exact .sl0 _ _
  · obtain ⟨b',p1,p2⟩:=c1.part (lo * l.sz) (n * l.sz)
    have hz:=h.each;have hflat:((xs.drop lo).take n).flatMap V.cells=((xs.flatMap V.cells).drop (lo * l.sz)).take (n * l.sz):=by
      grind[flatMap_take,List.mem_of_mem_drop,flatMap_drop]
    refine ⟨l.b::b',?_,fun b hb=> ?_⟩
    · have := Rep.sl (w:=w) (μ:=μ) ((xs.drop lo).take n) l.b (l.off+lo * l.sz) (l.cap - lo) l.sz ((vs.drop (lo * l.sz)).take (n * l.sz)) b'
        (by grind) ⟨by omega,cells_room h (by have e:lo * l.sz+(l.cap - lo) * l.sz=l.cap * l.sz:=(by rw [←Nat.add_mul];grind);omega)⟩ h.sz (fun y hy=>hz y (List.mem_of_mem_drop (ql3 hy))) (by grind)
        (fun y hy=>c2 y (List.mem_of_mem_drop (ql3 hy)))
        (by
          intro j y hj;have hjl:j < n * l.sz:=by
            grind
          rw [List.getElem?_take_of_lt hjl,List.getElem?_drop] at hj;rw [Nat.add_assoc];exact c3 _ y hj)
      grind
    grind
theorem toCell_rep (h:Sup cx s a w μ ow) {ls:List Nat} (hls:∀id∈ls,id < s.O.length) (hf:s.vw=false∨∀id∈ls,deepAt s id=false) {v v':V} {x:Value} {bl:List Nat}
    (hr:Rep w μ v x bl) (hb:∀b∈bl,VOK cx ow s.vw b) (ht:toCell s ls v=some v') :
    ∃bl',Rep w (muC ls μ) v' x bl'∧(∀b∈bl',owC s ls ow b=none)∧((match v with | .ref _ | .sub _ _ _ | .ptr _ _ _=>false | _=>true)=true→∀b∈bl',b∈bl):=by
  have hmu:∀{id j:Nat} {l:Loc},idx ls id=some j→μ id=some l→muC ls μ j=some l:=by
    intro id j l h1 h2;simp [muC,idx_spec h1,h2]
  have plain:v'=v→Rep w (muC ls μ) v x bl→∃bl',Rep w (muC ls μ) v' x bl'∧(∀b∈bl',owC s ls ow b=none)∧((match v with | .ref _ | .sub _ _ _ | .ptr _ _ _=>false | _=>true)=true→∀b∈bl',b∈bl):=
    fun e q=>⟨bl,by grind,fun b hbb=>owC_view (hb b hbb) hf,fun _ _ hbb=>hbb⟩
  cases v with
  | int k n=>cases hr;exact plain (by simpa [toCell,eq_comm] using ht) (.int k n)
  | bool t=>cases hr;exact plain (by simpa [toCell,eq_comm] using ht) (.bool t)
  | str t=>cases hr;exact plain (by simpa [toCell,eq_comm] using ht) (.str t)
  | npt=>cases hr;exact plain (by simpa [toCell,eq_comm] using ht) .npt
  | nfn=>cases hr;exact plain (by simpa [toCell,eq_comm] using ht) .nfn
  | sl xs=>
    refine plain (by simpa [toCell,eq_comm] using ht) ?_;cases hr with
    | sl0 q c=>exact .sl0 q c
    | sl _ b off c sz vs bl h0 hc hs hz hl h1 hr'=>exact .sl _ b off c sz vs bl h0 hc hs hz hl h1 hr'
  | pv xs i off=>
    refine plain (by simpa [toCell,eq_comm] using ht) ?_;cases hr with
    | pv _ _ _ b o sz vs bl hi hs hz hl h1 hr'=>exact .pv _ _ _ b o sz vs bl hi hs hz hl h1 hr'
  | nsl =>
    cases hr with
    | nsl q=>
      cases ls with
      | nil=>
        simp only [toCell,Option.some.injEq] at ht;subst ht;exact ⟨[],.sl0 q 0,by simp,by simp⟩
      | cons a0 l0=>
        simp only [toCell,Option.some.injEq] at ht;subst ht;exact ⟨[],.nsl q,by simp,by simp⟩
  | agg=>simp [toCell] at ht
  | tup=>simp [toCell] at ht
  | opt=>simp [toCell] at ht
  | any=>simp [toCell] at ht
  | fn=>simp [toCell] at ht
  | ref id =>
    simp only [toCell] at ht;cases q:idx ls id with
    | some j=>
      rw [q] at ht;simp only [Option.some.injEq] at ht;subst ht;cases hr with
      | ref _ l _ hl hd=>exact ⟨[],.ref j l _ (hmu q hl) hd,by simp,by simp⟩
    | none =>
      rw [q] at ht;cases hrow:s.row id with
      | none=>grind
      | some xk =>
        obtain ⟨xs,k⟩:=xk;rw [hrow] at ht;simp only at ht;cases hk:k.nm with
        | false=>grind
        | true =>
          rw [hk,cond_true] at ht;simp only [Option.some.injEq] at ht;subst ht;obtain ⟨l,h1,h2,h3⟩:=snap h hrow (by omega) q hf;cases hr with
          | ref _ l' _ hl hd=>
            rw [hl] at h1;cases h1;rcases h3 with ⟨h3,h4⟩ | ⟨h3,bl,h4,h5⟩
            · subst h4
              cases hd with
              | nil q2 _ _=>exact ⟨[],.sl0 q2 0,by simp,by simp⟩
              | real hreal=>grind
            · cases hd with
              | nil _ hf' _=>grind
              | real _=>
                obtain ⟨bl',r1,r2⟩:=h4.slRep (μ:=muC ls μ) 0 xs.length (by omega) h2
                grind
  | sub id lo n=>
    simp only [toCell] at ht;cases q:idx ls id with
    | some j=>grind
    | none =>
      rw [q] at ht;cases hrow:s.row id with
      | none=>grind
      | some xk=>
        obtain ⟨xs,k⟩:=xk;rw [hrow] at ht;simp only at ht;cases hk:k.nm with
        | false=>grind
        | true=>
          rw [hk,cond_true] at ht;simp only [Option.some.injEq] at ht;subst ht;obtain ⟨l,h1,h2,h3⟩:=snap h hrow (by omega) q hf;cases hr with
          | sub0 _ _ l' q2 hl hn=>
            exact ⟨[],by rw [List.take_zero];exact .sl0 q2 0,by simp,by simp⟩
          | sub _ _ _ l' hl hreal hn=>
            rw [hl] at h1;cases h1;rcases h3 with ⟨h3,_⟩ | ⟨h3,bl,h4,h5⟩
            · grind
            · obtain ⟨bl',r1,r2⟩:=h4.slRep (μ:=muC ls μ) lo n (by omega) h2
              grind
  | ptr id i off=>
    simp only [toCell] at ht;cases q:idx ls id with
    | some j=>
      rw [q] at ht;simp only [Option.some.injEq] at ht;subst ht;cases hr with
      | ptr _ _ _ l hl hi=>exact ⟨[],.ptr j i off l (hmu q hl) hi,by simp,by simp⟩
    | none =>
      rw [q] at ht;cases hrow:s.row id with
      | none=>grind
      | some xk=>
        obtain ⟨xs,k⟩:=xk;rw [hrow] at ht;simp only at ht;cases hk:k.nm with
        | false=>grind
        | true=>
          rw [hk,cond_true] at ht;simp only [Option.some.injEq] at ht;subst ht;obtain ⟨l,h1,h2,h3⟩:=snap h hrow (by omega) q hf;cases hr with
          | ptr _ _ _ l' hl hi=>
            rw [hl] at h1;cases h1;rcases h3 with ⟨h3,h4⟩ | ⟨h3,bl,h4,h5⟩
            · grind
            · obtain ⟨vs,c1,c2,c3⟩:=h4.rowOf
              exact ⟨l.b::bl,.pv xs i off l.b l.off l.sz vs bl (by omega) h4.sz h4.each c1 c2 c3,h5,by simp⟩
theorem toCells_rep (h:Sup cx s a w μ ow) {ls:List Nat} (hls:∀id∈ls,id < s.O.length) (hf:s.vw=false∨∀id∈ls,deepAt s id=false):∀{cs cs':List V} {vs:List Value} {bl:List Nat},
    RepL w μ cs vs bl→(∀b∈bl,VOK cx ow s.vw b)→toCells s ls cs=some cs'→
    ∃ bl',RepL w (muC ls μ) cs' vs bl'∧(∀b∈bl',owC s ls ow b=none)∧
      ((cs.all fun c=>match c with | .ref _ | .sub _ _ _ | .ptr _ _ _ | .opt _ _ | .tup _ | .agg _ | .fn _ _=>false | _=>true)=true→∀b∈bl',b∈bl)
  | [],cs',_,_,hr,_,ht=>by
    cases hr;simp only [toCells,Option.some.injEq] at ht;subst ht;exact ⟨[],.nil,by simp,by simp⟩
  | c ::cs,cs',_,_,hr,hb,ht=>by
    cases hr with
    | cons _ x b1 _ xs b2 hc hrest=>
      unfold toCells at ht;cases q1:toCell s ls c with
      | none=>grind
      | some c'=>
        cases q2:toCells s ls cs with
        | none=>grind
        | some cs2=>
          rw [q1,q2] at ht;simp only [Option.some.injEq] at ht;subst ht;obtain ⟨d1,e1,e2,e3⟩:=toCell_rep h hls hf hc (fun b hbb=>hb b (qmc _ hbb)) q1;obtain ⟨d2,g1,g2,g3⟩:=toCells_rep h hls hf hrest (fun b hbb=>hb b (qmk _ hbb)) q2;refine ⟨d1++d2,.cons _ _ _ _ _ _ e1 g1,fun b hbb=>(qll.1 hbb).elim (e2 b) (g2 b),fun hall b hbb=> ?_⟩
          grind
theorem toCells_len {ls:List Nat}:∀{cs cs':List V},toCells s ls cs=some cs'→cs'.length=cs.length
  | [],cs',h=>by grind[toCells,Option.some.injEq]
  | c ::cs,cs',h=>by
    unfold toCells at h;cases q1:toCell s ls c with
    | none=>grind
    | some c'=>
      cases q2:toCells s ls cs with
      | none=>grind
      | some cs2=>
        rw [q1,q2] at h;simp only [Option.some.injEq] at h;subst h;simp [toCells_len q2]
theorem toCells_app {ls:List Nat}:∀{as bs as' bs':List V},toCells s ls as=some as'→toCells s ls bs=some bs'→toCells s ls (as++bs)=some (as'++bs')
  | [],bs,as',bs',h,h2=>by grind[toCells,Option.some.injEq]
  | c ::cs,bs,as',bs',h,h2=>by
    unfold toCells at h;cases q1:toCell s ls c with
    | none=>grind
    | some c'=>
      cases q2:toCells s ls cs with
      | none=>grind
      | some cs2=>
        rw [q1,q2] at h;simp only [Option.some.injEq] at h;subst h;rw [List.cons_append,List.cons_append,toCells,q1,toCells_app q2 h2]
theorem toRows_spec:∀{xs xs':List V},toRows s xs=some xs'→
    toCells s [] (xs.flatMap V.cells)=some (xs'.flatMap V.cells)∧xs'.length=xs.length∧∀sz,(∀x∈xs,x.cells.length=sz)→∀x∈xs',x.cells.length=sz
  | [],xs',h=>by grind[toRows,Option.some.injEq,toCells]
  | .agg cs::xs,xs',h=>by
    unfold toRows at h;cases q1:toCells s [] cs with
    | none=>grind
    | some cs'=>
      cases q2:toRows s xs with
      | none=>grind
      | some xs2=>
        rw [q1,q2] at h;simp only [Option.some.injEq] at h;subst h;obtain ⟨i1,i2,i3⟩:=toRows_spec q2;refine ⟨?_,by grind,fun sz hz x hx=> ?_⟩
        · rw [qlz,qlz]
          exact toCells_app q1 i1
        · rcases ql0.1 hx with rfl | hx
          · grind[List.mem_cons_self,V.cells,toCells_len]
          simp_all
  | .int _ _::_,_,h | .bool _::_,_,h | .str _::_,_,h | .nsl::_,_,h | .sl _::_,_,h | .ref _::_,_,h | .sub _ _ _::_,_,h | .ptr _ _ _::_,_,h | .pv _ _ _::_,_,h
  | .npt::_,_,h | .fn _ _::_,_,h | .nfn::_,_,h | .tup _::_,_,h | .opt _ _::_,_,h | .any::_,_,h=>by simp [toRows] at h
theorem toArg_rep (h:Sup cx s a w μ ow) {ls:List Nat} (hls:∀id∈ls,id < s.O.length) (hf:s.vw=false∨∀id∈ls,deepAt s id=false) {v v':V} {x:Value} {bl:List Nat}
    (hr:Rep w μ v x bl) (hb:∀b∈bl,VOK cx ow s.vw b) (ht:toArg s ls v=some v') :
    ∃bl',Rep w (muC ls μ) v' x bl'∧(∀b∈bl',owC s ls ow b=none)∧(v.cold=true→∀b∈bl',b∈bl):=by
  have plain:toCell s ls v=some v'→(∀cs,v≠.agg cs)→(∀f cs,v≠.fn f cs)→∃bl',Rep w (muC ls μ) v' x bl'∧(∀b∈bl',owC s ls ow b=none)∧(v.cold=true→∀b∈bl',b∈bl):=by
    grind[toCell_rep,V.cold]
  cases v with
  | agg cs=>
    simp only [toArg,Option.map_eq_some_iff] at ht;obtain ⟨cs',q,rfl⟩:=ht;cases hr with
    | agg _ vs _ hl h1=>
      obtain ⟨bl',r1,r2,r3⟩:=toCells_rep h hls hf hl hb q;exact ⟨bl',.agg _ _ _ r1 h1,r2,r3⟩
  | fn f cs=>
    simp only [toArg,Option.map_eq_some_iff] at ht;obtain ⟨cs',q,rfl⟩:=ht;cases hr with
    | fn _ _ vs _ hl=>
      obtain ⟨bl',r1,r2,r3⟩:=toCells_rep h hls hf hl hb q;exact ⟨bl',.fn _ _ _ _ r1,r2,r3⟩
  | ptr id i off=>
    cases i with
    | succ i=>simp_all[toArg]
    | zero =>
      cases q:toCell s ls (.ptr id 0 off) with
      | some v2=>
        simp_all[toArg,Option.some.injEq]
      | none =>
        simp only [toArg,q] at ht;split at ht
        · rename_i cs hrow
          simp only [Option.map_eq_some_iff] at ht;obtain ⟨cs',q2,rfl⟩:=ht;have hno:∀b,owC s [] ow b=none:=by
            grind[owC,owC_ne,idx]
          have hM:muC [] μ=M0:=by funext j;rfl
          obtain ⟨l,h1,h2,h3⟩:=h.row hrow;cases hr with
          | ptr _ _ _ l' hl hi=>
            rw [hl] at h1;obtain rfl:=Option.some.inj h1;rcases h3 with ⟨_,h3⟩ | ⟨h3,h4,bl,h5,h6,h7⟩
            · grind
            · obtain ⟨vs,c1,c2,c3⟩:=h5.rowOf
              have c1':RepL w μ cs vs bl:=by
                have q9:RepL w (Kd.mix.mu μ) cs vs bl:=by simpa [V.cells] using c1
                exact q9
              have hcl:=h5.each _ (qle ..);obtain ⟨bl2,g1,g2,_⟩:=toCells_rep (ls:=[]) h (by simp) (.inr (by simp)) c1' h6 q2;rw [hM] at g1;have hc2:cs'.length=cs.length:=by have:=g1.length;have:=c1'.length;omega
              have hpv:=fun b o sz (hz:(V.agg cs').cells.length=sz) (hs:0 < sz) (hrow:Row w b o vs)=>Rep.pv (w:=w) (μ:=muC [] μ) [.agg cs'] 0 off b o sz vs bl2 (by simp) hs (by
                grind) (by simpa [V.cells] using g1) c2 hrow
              exact ⟨_,hpv _ _ _ (by grind[V.cells]) h5.sz c3,fun b _=>hno b,by simp [V.cold]⟩
        grind
  | ref id =>
    cases q:toCell s ls (.ref id) with
    | some v2=>
      simp_all[toArg,Option.some.injEq]
    | none =>
      simp only [toArg,q] at ht;split at ht
      · rename_i x1 xs1 hrow
        simp only [Option.map_eq_some_iff] at ht;obtain ⟨xs',q2,rfl⟩:=ht;have hno:∀b,owC s [] ow b=none:=by
          grind[owC,owC_ne,idx]
        have hM:muC [] μ=M0:=by funext j;rfl
        obtain ⟨l,h1,h2,h3⟩:=h.row hrow;cases hr with
        | ref _ l' _ hl hd=>
          rw [hl] at h1;obtain rfl:=Option.some.inj h1;rcases h3 with ⟨_,h3⟩ | ⟨h3,h4,bl,h5,h6,h7⟩
          · grind
          · cases hd with
            | nil _ hf' _=>grind
            | real _=>
              obtain ⟨vs,c1,c2,c3⟩:=h5.rowOf;have c1':RepL w μ ((x1::xs1).flatMap V.cells) vs bl:=c1;obtain ⟨i1,i2,i3⟩:=toRows_spec q2;obtain ⟨bl2,g1,g2,_⟩:=toCells_rep (ls:=[]) h (by simp) (.inr (by simp)) c1' h6 i1;rw [hM] at g1;have hle:=h5.le;have hn2:l'.n=xs'.length:=by omega
              have:=Rep.sl (w:=w) (μ:=muC [] μ) xs' l'.b l'.off l'.cap l'.sz vs bl2 (by grind)
                ⟨by omega,cells_room h5 (qlu _)⟩ h5.sz (i3 _ h5.each) g1 c2 c3
              grind[V.cold]
      grind
  | _=>simp_all[toArg]
end
end Go.Vm
namespace Go.Vm
open Go
section
variable {P:Program} {cx:Cx} {s:St} {a:Act} {w:World} {μ:Nat→Option Loc} {ow:Ow}
theorem toArgs_get:∀{args args':List V} {ls:List Nat},toArgs s ls args=some args'→args.length=args'.length∧∀(i:Nat) (v':V),args'[i]? =some v'→∃v,args[i]? =some v∧toArg s ls v=some v'
  | [],args',ls,h=>by
    simp only [toArgs,Option.some.injEq] at h
    grind
  | c ::cs,args',ls,h=>by
    unfold toArgs at h;cases q1:toArg s ls c with
    | none=>grind
    | some c'=>
      cases q2:toArgs s ls cs with
      | none=>grind
      | some cs2=>
        rw [q1,q2] at h;simp only [Option.some.injEq] at h;subst h;obtain ⟨l1,l2⟩:=toArgs_get q2
        grind
theorem mapM_get {α:Type} {f:Nat→Option α}:∀{ls:List Nat} {r:List α},ls.mapM f=some r→ls.length=r.length∧∀(j:Nat) (y:α),r[j]? =some y→∃id,ls[j]? =some id∧f id=some y
  | [],r,h=>by
    grind
  | x ::ls,r,h=>by
    rw [List.mapM_cons] at h;cases q1:f x with
    | none=>grind
    | some y0=>
      cases q2:ls.mapM f with
      | none=>grind
      | some r2=>
        rw [q1,q2] at h;simp at h;subst h;obtain ⟨l1,l2⟩:=mapM_get q2
        grind
theorem noSl_list:∀{cs:List V} {vs:List Value} {bl:List Nat},RepL w μ cs vs bl→cs.all V.noSl=true→bl=[]
  | _,_,_,.nil,_=>rfl
  | _,_,_,.cons c x b1 _ xs b2 hc ht,hn=>by
    rw [List.all_cons,qlo] at hn;rw [noSl_nil hc hn.1,noSl_list ht hn.2];rfl
theorem clean_nil {r:V} {v:Value} {bl:List Nat} (h:Rep w μ r v bl) (hc:r.clean=true):bl=[]:=by
  cases r with
  | tup vs=>cases h with
    | tup _ xs _ hl=>exact noSl_list hl hc
  | _=>exact noSl_nil h hc
theorem row_of_blk {id:Nat} {bk:Blk} (h:s.O[id]? =some bk):s.row id=bk.row:=by simp [St.row,h]
theorem coldIn_cases {x:V} {ls:List Nat} (h:x.coldIn ls=true):x.cold=true∨∃id j,idx ls id=some j∧((∃i off,x=.ptr id i off)∨x=.ref id):=by
  cases x with
  | ptr id i off=>exact .inr ⟨id,_,(qmb.1 h).choose_spec,.inl ⟨i,off,rfl⟩⟩
  | ref id=>exact .inr ⟨id,_,(qmb.1 h).choose_spec,.inr rfl⟩
  | _=>exact .inl h
theorem lent_nil {x x':V} {ls:List Nat} {w:World} {μ:Nat→Option Loc} {v:Value} {bl:List Nat} (h:∃id j,idx ls id=some j∧((∃i off,x=.ptr id i off)∨x=.ref id)) (ht:toArg s ls x=some x') (hr:Rep w μ x' v bl):bl=[]:=by
  obtain ⟨id,j,hj,⟨i,off,rfl⟩ | rfl⟩:=h
  · have hc:toCell s ls (.ptr id i off)=some (.ptr j i off):=by simp [toCell,hj]
    have:x'=.ptr j i off:=by
      cases i with
      | zero=>simp_all[toArg,Option.some.injEq]
      | succ i=>simp_all[toArg,Option.some.injEq]
    subst this;cases hr;rfl
  · have hc:toCell s ls (.ref id)=some (.ref j):=by simp [toCell,hj]
    have:x'=.ref j:=by simp_all[toArg,Option.some.injEq]
    subst this;cases hr;rfl
theorem call_state0 {K:V→St→Prop} (hT:cx.tabs=tabsOf P) (h:Rel cx s a w μ ow) (f:FuncId) (ls:List Nat) (args:List V) (vals:Array Value) (hv:vals.size=args.length)
    (hrep:∀i V,args[i]? =some V→∃bl,Rep w μ V (vals.getD i undef) bl∧∀b∈bl,VOK cx ow s.vw b) (hk:aCall0 P s f ls args K) :
    Calls P f vals w fun e w'=>∃v,e=.returned v∧∃val s' μ2 ow2,Rel cx s' a w' μ2 ow2∧s'.n=s.n∧(∃bl,Rep w' μ2 val v bl∧∀b∈bl,VOK cx ow2 s'.vw b)∧K val s':=by
  obtain ⟨args',Ols,R,hargs,hOls,hnd,hOk,hfl,hcon,hRK⟩:=hk;obtain ⟨la,ga⟩:=toArgs_get hargs;obtain ⟨lo,go⟩:=mapM_get hOls;have hsup:=h.sup;have hlt:∀id∈ls,id < s.O.length:=by
    intro id hid;obtain ⟨j,hj⟩:=List.getElem?_of_mem hid;have hjl:j < Ols.length:=by
      rw [←lo];rcases qly j ls.length with q | q
      · exact q
      · rw [qlp q] at hj;cases hj
    obtain ⟨id',h1,h2⟩:=go j _ (qla hjl);rw [hj] at h1;simp only [Option.some.injEq] at h1;subst h1;rcases qly id s.O.length with q | q
    · exact q
    · rw [qlp q] at h2;cases h2
  have hlent:∀(j id:Nat),ls[j]? =some id→∃bk,s.O[id]? =some bk∧Ols[j]? =some bk∧bk∈Ols:=by
    intro j id hj;have hjl:j < Ols.length:=by
      rw [←lo];rcases qly j ls.length with q | q
      · exact q
      · rw [qlp q] at hj;cases hj
    obtain ⟨id',h1,h2⟩:=go j _ (qla hjl);rw [hj] at h1;simp only [Option.some.injEq] at h1;subst h1;exact ⟨_,h2,qla hjl,List.getElem_mem hjl⟩
  have hf : s.vw = false∨∀id∈ls,deepAt s id=false:=by
    refine hfl.imp (fun q=>q) fun q id hid=> ?_
    obtain ⟨j,hj⟩:=List.getElem?_of_mem hid;obtain ⟨bk,h1,_,h3⟩:=hlent j id hj;have:=q bk h3;have hne:=(hOk bk h3).2;unfold deepAt;rw [row_of_blk h1];cases bk with
    | dead=>exact absurd rfl hne
    | hid j' n'=>simp [Blk.kindIs] at this
    | arr xs k => have hk:k=.flat:=by simpa [Blk.kindIs] using this
                  subst hk;rfl
    | box x k => have hk:k=.flat:=by simpa [Blk.kindIs] using this
                 subst hk;rfl
  let vis:Nat→Prop:=fun b=>(∀x∈args,x.coldIn ls=true)→VOK cx ow s.vw b
  have hinp : Inp P w vals args' Ols (muC ls μ) (owC s ls ow) vis:=by
    refine ⟨by rw [hv,la],?_,?_,?_,?_,?_⟩
    · intro i v' e
      obtain ⟨v,e1,e2⟩:=ga i v' e;obtain ⟨bl,r1,r2⟩:=hrep i v e1;obtain ⟨bl',k1,k2,k3⟩:=toArg_rep hsup hlt hf r1 r2 e2;refine ⟨bl',k1,fun b hb=>⟨k2 b hb,fun hc=> ?_⟩⟩;have hcv:=hc v (qlb e1);rcases coldIn_cases hcv with q | q
      · exact r2 b (k3 q b hb)
      · rw [lent_nil q e2 k1] at hb;cases hb
    · intro j bk e
      obtain ⟨id,h1,h2⟩:=go j bk e;have hb:=h.blk id bk h2;have hok:=hOk bk (qlb e);have hmu:muC ls μ j=μ id:=by simp [muC,h1]
      have hidx:=idx_get hnd h1;have key:∀xs k,k.nm=true→s.row id=some (xs,k)→(s.vw=true→k=.flat)→RowOK cx w μ ow s.vw id xs k→RowOK ⟨w,fun b=>owC s ls ow b≠none,vis,muC ls μ,[]⟩ w (muC ls μ) (owC s ls ow) false j xs k:=by
        intro xs k hk hrow hvk ⟨l,q1,q2,q3⟩;refine ⟨l,by rw [hmu];exact q1,q2,?_⟩;rcases q3 with q3 | ⟨q3,q4,bl,q5,q6,q7⟩
        · exact .inl q3
        · refine .inr ⟨q3,by simp [owC,q4,hidx],bl,?_,?_,q7⟩
          · have e1:k.mu μ=M0:=by cases k<;>first | rfl | exact absurd hk (by decide)
            have e2:k.mu (muC ls μ)=M0:=by cases k<;>first | rfl | exact absurd hk (by decide)
            rw [e2,←e1];exact q5
          · cases k with
            | flat | thin=>exact q6
            | deep=>
              have hd:deepAt s id=true:=by simp [deepAt,hrow]
              exact ⟨q6.1,fun b hb=>by simp [owC,q6.2 b hb,hidx,hd]⟩
            | shal=>
              intro b hb;have hvw:s.vw=false:=by
                cases e:s.vw with
                | false=>rfl
                | true=>have:=hvk e;cases this
              refine ⟨.inl (owC_view (q6 b hb) (.inl hvw)),.inl fun _=>q6 b hb⟩
            | mix | part=>exact absurd hk (by decide)
      have hvk:∀k,bk.row=some (bk.row.map (·.1) |>.getD [],k)→s.vw=true→k=.flat:=by
        intro k hk hvw;rcases hfl with q | q
        · rw [hvw] at q;cases q
        · have:=q bk (qlb e)
          cases bk with
          | dead=>exact absurd rfl hok.2
          | hid j' n'=>simp [Blk.kindIs] at this
          | arr xs k'=>simp [Blk.kindIs,Blk.row] at this hk;rw [←hk];exact this
          | box x k'=>simp [Blk.kindIs,Blk.row] at this hk;rw [←hk];exact this
      cases bk with
      | dead=>trivial
      | hid j' n'=>have:=hok.1;simp [Blk.kindIs] at this
      | arr xs k=>exact key xs k (by simpa [Blk.kindIs] using hok.1) (by rw [row_of_blk h2];rfl) (hvk k rfl) hb
      | box x k=>exact key [x] k (by simpa [Blk.kindIs] using hok.1) (by rw [row_of_blk h2];rfl) (hvk k rfl) hb
    · intro j hj
      have:ls[j]? =none:=qlp (by omega);simp [muC,this]
    · intro b hb
      obtain ⟨r',id,j,q1,_⟩:=owC_ne hb;exact h.owl b (by rw [q1];simp)
    · intro p hp
      rw [←hT] at hp;obtain ⟨k1,c,t,fr,k2,k3⟩:=h.frm.tab p hp;have hlt0:p.1 < cx.w0.heap.size:=by
        rcases qly p.1 cx.w0.heap.size with q | q
        · exact q
        · rw [Array.getElem?_eq_none q] at k2;cases k2
      refine ⟨?_,c,t,fr,(h.frm.old p.1 hlt0 k1).trans k2,k3⟩;cases q:owC s ls ow p.1 with
      | none=>rfl
      | some z=>
        exfalso;obtain ⟨_,_,_,z1,_⟩:=owC_ne (s:=s) (ow:=ow) (ls:=ls) (b:=p.1) (by rw [q];simp);rcases h.own p.1 (by rw [z1];simp) with y | y
        · exact k1 y
        · omega
  refine (hcon.2 w vals _ _ vis hinp).mono ?_;rintro e w' ⟨r,O',hR,v,μ',ow',rfl,hout⟩;obtain ⟨hclean,hK⟩:=hRK r O' hR;refine ⟨v,rfl,r.ren (rho ls s.O.length),{s with O:=setBlks s.O ls O'++O'.drop ls.length},?_⟩
  obtain ⟨⟨bl,rr,rv⟩,oblk,onomix,osame,olen,odom,oowl,oown,ofrm⟩:=hout;let m:=ls.length;have hm:m=Ols.length:=lo;let nid:=s.O.length;let μ2:Nat→Option Loc:=fun id=>if nid≤id then μ' (id - nid+m) else μ id
  let ow2:Ow:=fun b=>match ow' b with
    | some (r',j)=>some (r',rho ls nid j)
    | none=>if owC s ls ow b=none then ow b else none
  have hkeep:∀b,b < w.heap.size→owC s ls ow b=none→w'.heap[b]? =w.heap[b]?∧ow2 b=ow b:=by
    intro b hb hn;refine ⟨ofrm.old b hb (by simp [hn]),?_⟩;have h0:ow' b=none:=by
      cases q:ow' b with
      | none=>rfl
      | some z=>
        rcases oown b (by rw [q];simp) with q1 | q1
        · exact absurd hn q1
        · omega
    simp [ow2,h0,hn]
  have hμ2:MLe μ μ2:=by
    intro id l e;have:¬nid≤id:=fun q=>by rw [h.dom id q] at e;cases e
    simp [μ2,this,e]
  have hren:∀id l,μ' id=some l→μ2 (rho ls nid id)=some l:=by
    intro id l e;unfold rho
    by_cases hid:id < ls.length
    · rw [if_pos hid]
      have hg:ls[id]? =some (ls.getD id 0):=by simp [hid]
      have hlt':ls.getD id 0 < nid:=hlt _ (qlb hg);have hsome:∃l',muC ls μ id=some l':=by
        obtain ⟨bk,h1,h2,h3⟩:=hlent id _ hg;have hb:=h.blk _ bk h1;have hne:=(hOk bk h3).2;have hmu:muC ls μ id=μ (ls.getD id 0):=by simp only [muC,hg,Option.bind_some]
        rw [hmu];cases bk with
        | dead=>exact absurd rfl hne
        | hid j' n'=>have:=(hOk _ h3).1;simp [Blk.kindIs] at this
        | arr xs k=>obtain ⟨l',q,_⟩:=hb;exact ⟨l',q⟩
        | box x k=>obtain ⟨l',q,_⟩:=hb;exact ⟨l',q⟩
      obtain ⟨l',hl'⟩:=hsome;have:=osame id l' hl';rw [e] at this;simp only [Option.some.injEq] at this;subst this;have hmu:muC ls μ id=μ (ls.getD id 0):=by simp only [muC,hg,Option.bind_some]
      rw [hmu] at hl';simp only [μ2,if_neg (Nat.not_le.2 hlt'),hl']
    · rw [if_neg hid]
      have e1:nid≤nid+(id - ls.length):=by omega
      have e2:nid+(id - ls.length) - nid+m=id:=by show _+ls.length=id;omega
      simp only [μ2,e1,if_true,e2,e]
  have hviewKeep:∀b,b < w.heap.size→VOK cx ow s.vw b→w'.heap[b]? =w.heap[b]?∧ow2 b=ow b:=fun b hb hv=>hkeep b hb (owC_view hv hf)
  have hfresh:∀b,w.heap.size≤b→ow b=none:=by
    intro b hb;cases q:ow b with
    | none=>rfl
    | some z=>have:=(h.owl b (by rw [q];simp)).lt;omega
  have hback:(∀x∈args,x.coldIn ls=true)→∀b,ow' b=none→(vis b∨owC s ls ow b≠none∨w.heap.size≤b)→VOK cx ow2 s.vw b:=by
    intro hc b h0 hb
    by_cases hno:owC s ls ow b=none
    · have h2:ow2 b=ow b:=by simp [ow2,h0,hno]
      rcases hb with hb | hb | hb
      · exact (hb hc).mono h2 (fun q=>q)
      · exact absurd hno hb
      · exact ⟨.inl (h2.trans (hfresh b hb)),.inr (.inr (ql4 h.frm.size hb))⟩
    · have h2:ow2 b=none:=by simp [ow2,h0,hno]
      obtain ⟨_,_,_,q1,_⟩:=owC_ne hno;exact ⟨.inl h2,.inr (h.own b (by rw [q1];simp))⟩
  refine ⟨μ2,ow2,⟨h.dfr,h.sz,?_,?_,?_,?_,?_,?_,h.mu.trans hμ2⟩,rfl,⟨bl,rr.ren hren,?_⟩,hK⟩
  · intro t
    obtain ⟨bt,k1,k2⟩:=h.env t;exact ⟨bt,k1.keep hμ2 fun b hb=>(hviewKeep b (k1.lt b hb) (k2 b hb)).1,fun b hb=>(k2 b hb).mono (hviewKeep b (k1.lt b hb) (k2 b hb)).2 (fun q=>q)⟩
  · intro id bk e
    have move : ∀(j:Nat),O'[j]? =some bk→rho ls nid j=id→BlkOK cx w' μ2 ow2 s.vw id bk:=by
      intro j hj hrho;have hb:=oblk j bk hj;have hnm:=onomix bk (qlb hj);have key:∀xs k,k.nm=true→(k≠.flat→k≠.deep→k≠.thin→(∀x∈args,x.coldIn ls=true))→RowOK ⟨w,fun b=>owC s ls ow b≠none,vis,muC ls μ,[]⟩ w' μ' ow' false j xs k→RowOK cx w' μ2 ow2 s.vw id xs k:=by
        intro xs k hk hcl ⟨l,q1,q2,q3⟩;have q1':=hren j l q1;rw [hrho] at q1';refine ⟨l,q1',q2,?_⟩;rcases q3 with q3 | ⟨q3,q4,bl,q5,q6,q7⟩
        · exact .inl q3
        · refine .inr ⟨q3,by simp [ow2,q4,hrho],bl,?_,?_,q7⟩
          · have e1:k.mu μ'=M0:=by cases k<;>first | rfl | exact absurd hk (by decide)
            have e2:k.mu μ2=M0:=by cases k<;>first | rfl | exact absurd hk (by decide)
            rw [e2,←e1];exact q5
          · cases k with
            | flat | thin=>exact q6
            | deep=>exact ⟨q6.1,fun b hb=>by simp [ow2,q6.2 b hb,hrho]⟩
            | shal=>
              intro b hb;have hvok:=q6 b hb;have h0:ow' b=none:=by
                rcases hvok.1 with q | ⟨q,_⟩
                · exact q
                · cases q
              exact hback (hcl (by simp) (by simp) (by simp)) b h0 hvok.2
            | mix | part=>exact absurd hk (by decide)
      have hcl:∀k,bk.row=some (bk.row.map (·.1) |>.getD [],k)→k≠.flat→k≠.deep→k≠.thin→(∀x∈args,x.coldIn ls=true):=by
        intro k hk h1 h2 h3;rcases hclean with ⟨_,q⟩ | q
        · have:=q bk (qlb hj)
          cases bk with
          | dead=>cases hk
          | hid j' n'=>cases hk
          | arr xs k'=>simp [Blk.kindIs,Blk.row] at this hk;subst hk;exact absurd this (by cases k'<;>simp_all [Kd.nm])
          | box x k'=>simp [Blk.kindIs,Blk.row] at this hk;subst hk;exact absurd this (by cases k'<;>simp_all [Kd.nm])
        · exact q
      cases bk with
      | dead=>trivial
      | hid j' n'=>simp [Blk.kindIs] at hnm
      | arr xs k=>exact key xs k (by simpa [Blk.kindIs] using hnm) (hcl k rfl) hb
      | box x k=>exact key [x] k (by simpa [Blk.kindIs] using hnm) (hcl k rfl) hb
    have stay:s.O[id]? =some bk→idx ls id=none→BlkOK cx w' μ2 ow2 s.vw id bk:=by
      intro e0 hn;refine (h.blk id bk e0).keep hμ2 (fun q=>q) fun b hb hcase=>hkeep b hb ?_
      rcases hcase with q | q | q
      · simp [owC,q,hn]
      · simp [owC,q,hn]
      · exact owC_view q hf
    by_cases hid:id < nid
    · have e1:(setBlks s.O ls O')[id]? =some bk:=by
        rw [qlv (by rw [setBlks_len];exact hid)] at e;exact e
      rw [setBlks_get ls s.O O' id hnd hlt] at e1;cases q:idx ls id with
      | none=>rw [q] at e1;exact stay e1 q
      | some j=>
        rw [q] at e1;have hj:=idx_spec q;have hjl:j < O'.length:=by
          have:j < ls.length:=by
            rcases qly j ls.length with z | z
            · exact z
            · rw [qlp z] at hj;cases hj
          omega
        simp only [List.getElem?_eq_getElem hjl,Option.some.injEq] at e1;refine move j (by rw [qla hjl,e1]) ?_;have hjl2:j < ls.length:=by
          rcases qly j ls.length with z | z
          · exact z
          · rw [qlp z] at hj;cases hj
        unfold rho;rw [if_pos hjl2];simp [hj]
    · have hge:nid≤id:=Nat.le_of_not_lt hid
      have e1:(O'.drop ls.length)[id - nid]? =some bk:=by
        rw [qlr (by rw [setBlks_len];exact hge),setBlks_len] at e;exact e
      rw [List.getElem?_drop] at e1;refine move _ e1 ?_;unfold rho;rw [if_neg (by omega)];omega
  · intro id hid
    have hlen:(setBlks s.O ls O'++O'.drop ls.length).length=nid+(O'.length - ls.length):=by rw [qlm,setBlks_len,qmh]
    have hid':nid+(O'.length - ls.length)≤id:=by rw [←hlen];exact hid
    have h1:nid≤id:=by omega
    simp only [μ2,h1,if_true];exact odom _ (by show O'.length≤id - nid+ls.length;omega)
  · intro b hb
    simp only [ow2] at hb;split at hb
    · rename_i r' j q
      exact oowl b (by rw [q];simp)
    · split at hb
      · rename_i hno;exact (h.owl b hb).keep (hkeep b (h.owl b hb).lt hno).1
      · exact absurd rfl hb
  · intro b hb
    simp only [ow2] at hb;split at hb
    · rename_i r' j q
      rcases oown b (by rw [q];simp) with z | z
      · obtain ⟨_,_,_,z1,_⟩:=owC_ne z
        exact h.own b (by rw [z1];simp)
      · exact .inr (ql4 h.frm.size z)
    · split at hb
      · exact h.own b hb
      · exact absurd rfl hb
  · refine ⟨ql4 h.frm.size ofrm.size,fun b hb hn=> ?_,ofrm.os.trans h.frm.os,ofrm.tape.trans h.frm.tape,ofrm.output.trans h.frm.output,fun x hx=>(ofrm.ice x (qmj hx h.frm.size)).trans (h.frm.ice x hx),h.frm.tab⟩
    have hlt2:b < w.heap.size:=qmj hb h.frm.size;have hno:owC s ls ow b=none:=by
      cases q:owC s ls ow b with
      | none=>rfl
      | some z=>
        obtain ⟨_,_,_,z1,_⟩:=owC_ne (s:=s) (ow:=ow) (ls:=ls) (b:=b) (by rw [q];simp);rcases h.own b (by rw [z1];simp) with y | y
        · exact absurd y hn
        · omega
    exact (hkeep b hlt2 hno).1.trans (h.frm.old b hb hn)
  · intro b hb
    rcases hclean with ⟨q,_⟩ | q
    · have:bl=[]:=clean_nil rr q
      subst this;cases hb
    · exact hback q b (rv b hb).1 (rv b hb).2
theorem call_S (hT:cx.tabs=tabsOf P) (h:Rel cx s a w μ ow) (hvw:s.vw=false) (f:FuncId) (ls:List Nat) (p:Nat) (args':List V) (vals:Array Value) (Ols O':List Blk) (hc:ConS P f args' Ols O')
    (hnd:ls.Nodup) (hp:∀j:Nat,j < p→ls[j]? =some j) (hO:∀j id:Nat,ls[j]? =some id→id < s.O.length∧s.O[id]? =Ols[j]?) (hlO:Ols.length=ls.length) (hlO':O'.length=ls.length)
    (hok:∀bk∈Ols,bk.okS p=true) (hok':∀bk∈O',bk.okS p=true)
    (hv:vals.size=args'.length) (harg:∀i V,args'[i]? =some V→∃bl,Rep w (muC ls μ) V (vals.getD i undef) bl∧∀b∈bl,VOK cx ow s.vw b) :
    Calls P f vals w fun e w'=>∃v,e=.returned v∧∃ow2,Rel cx {s with O:=setBlks s.O ls O'} a w' μ ow2:=by
  have hf:s.vw=false∨∀id∈ls,deepAt s id=false:=.inl hvw;have hlt:∀id∈ls,id < s.O.length:=fun id hid=>by
    obtain ⟨j,hj⟩:=List.getElem?_of_mem hid;exact (hO j id hj).1
  have hmup:∀id l,Nat.blt id p=true→μ id=some l→muC ls μ id=some l:=fun id l hb e=>by
    have hlt:id < p:=by rwa [Nat.blt_eq] at hb
    simp [muC,hp id hlt,e]
  let vis:Nat→Prop:=fun b=>VOK cx ow s.vw b
  have hinp : Inp P w vals args' Ols (muC ls μ) (owC s ls ow) vis:=by
    refine ⟨hv,fun i V e=> ?_,fun j bk e=> ?_,fun j hj=> ?_,fun b hb=> ?_,fun q hq=> ?_⟩
    · obtain ⟨bl,r1,r2⟩:=harg i V e
      exact ⟨bl,r1,fun b hb=>⟨owC_view (r2 b hb) hf,r2 b hb⟩⟩
    · have hjl:j < ls.length:=by
        rcases qly j Ols.length with q | q
        · omega
        · rw [qlp q] at e;cases e
      have h1:ls[j]? =some ls[j]:=qla hjl;generalize ls[j]=id at h1;have h2:s.O[id]? =some bk:=(hO j id h1).2.trans e;have hb:=h.blk id bk h2;have hk0:=hok bk (qlb e);have hmu:muC ls μ j=μ id:=by simp [muC,h1]
      have hidx:=idx_get hnd h1;have key:∀xs k,(k.nm || (k == .mix && V.onlyL (fun id=>Nat.blt id p) xs))=true→s.row id=some (xs,k)→RowOK cx w μ ow s.vw id xs k→RowOK ⟨w,fun b=>owC s ls ow b≠none,vis,muC ls μ,[]⟩ w (muC ls μ) (owC s ls ow) false j xs k:=by
        intro xs k hk hrow ⟨l,q1,q2,q3⟩;refine ⟨l,by rw [hmu];exact q1,q2,?_⟩;rcases q3 with q3 | ⟨q3,q4,bl,q5,q6,q7⟩
        · exact .inl q3
        · refine .inr ⟨q3,by simp [owC,q4,hidx],bl,?_,?_,q7⟩
          · cases hn:k.nm with
            | true=>
              have e1:k.mu μ=M0:=by cases k<;>first | rfl | exact absurd hn (by decide)
              have e2:k.mu (muC ls μ)=M0:=by cases k<;>first | rfl | exact absurd hn (by decide)
              rw [e2,←e1];exact q5
            | false=>
              rw [hn,Bool.false_or,qlo] at hk;have hkm:k=.mix:=by simpa using hk.1
              subst hkm;obtain ⟨c1,c2,c3,c,t,vs,c4,c5,c6,c7,c8⟩:=q5;exact ⟨c1,c2,c3,c,t,vs,c4,c5,RepL.only (p:=fun id=>Nat.blt id p) hmup c6 (onlyL_flat hk.2),c7,c8⟩
          · cases k with
            | flat | thin=>exact q6
            | deep=>
              have hd:deepAt s id=true:=by simp [deepAt,hrow]
              exact ⟨q6.1,fun b hb=>by simp [owC,q6.2 b hb,hidx,hd]⟩
            | shal=>exact fun b hb=>⟨.inl (owC_view (q6 b hb) hf),.inl (q6 b hb)⟩
            | mix=>exact fun b hb=>⟨.inl (owC_view (q6 b hb) hf),.inl (q6 b hb)⟩
            | part=>simp [Kd.nm] at hk
      cases bk with
      | dead=>trivial
      | hid j' n'=>simp [Blk.okS] at hk0
      | arr xs k=>exact key xs k hk0 (by rw [row_of_blk h2];rfl) hb
      | box x k=>exact key [x] k hk0 (by rw [row_of_blk h2];rfl) hb
    · have:ls[j]? =none:=qlp (by omega)
      simp [muC,this]
    · obtain ⟨r',id,j,q1,_⟩:=owC_ne hb
      exact h.owl b (by rw [q1];simp)
    · rw [←hT] at hq
      obtain ⟨k1,c,t,fr,k2,k3⟩:=h.frm.tab q hq;have hlt0:q.1 < cx.w0.heap.size:=by
        rcases qly q.1 cx.w0.heap.size with z | z
        · exact z
        · rw [Array.getElem?_eq_none z] at k2;cases k2
      refine ⟨?_,c,t,fr,(h.frm.old q.1 hlt0 k1).trans k2,k3⟩;cases z:owC s ls ow q.1 with
      | none=>rfl
      | some y=>
        exfalso;obtain ⟨_,_,_,z1,_⟩:=owC_ne (s:=s) (ow:=ow) (ls:=ls) (b:=q.1) (by rw [z];simp);rcases h.own q.1 (by rw [z1];simp) with y | y
        · exact k1 y
        · omega
  refine (hc.2 w vals _ _ vis hinp).mono ?_;rintro e w' ⟨v,μ',ow',rfl,oblk,osame,odom,oowl,oown,ofrm⟩;refine ⟨v,rfl,?_⟩;let ow2:Ow:=fun b=>match ow' b with
    | some (r',j)=>some (r',ls.getD j 0)
    | none=>if owC s ls ow b=none then ow b else none
  have hkeep:∀b,b < w.heap.size→owC s ls ow b=none→w'.heap[b]? =w.heap[b]?∧ow2 b=ow b:=by
    intro b hb hn;refine ⟨ofrm.old b hb (by simp [hn]),?_⟩;have h0:ow' b=none:=by
      cases q:ow' b with
      | none=>rfl
      | some z=>
        rcases oown b (by rw [q];simp) with q1 | q1
        · exact absurd hn q1
        · omega
    simp [ow2,h0,hn]
  have hren:∀j l,μ' j=some l→μ (ls.getD j 0)=some l:=by
    intro j l e;have hj:j < ls.length:=by
      rcases qly j ls.length with q | q
      · exact q
      · rw [odom j (by omega)] at e;cases e
    have hg:ls[j]? =some (ls.getD j 0):=by simp [hj]
    obtain ⟨h1,h2⟩:=hO j _ hg;have hne:∃bk,s.O[ls.getD j 0]? =some bk∧bk∈Ols:=⟨Ols[j]'(by omega),by rw [h2,qla (by omega)],List.getElem_mem _⟩;obtain ⟨bk,e1,e2⟩:=hne;have hb:=h.blk _ bk e1;have hk:=hok bk e2;have hsome:∃l',μ (ls.getD j 0)=some l':=by
      cases bk with
      | dead=>cases hk
      | hid j' n'=>simp [Blk.okS] at hk
      | arr xs k=>obtain ⟨l',q,_⟩:=hb;exact ⟨l',q⟩
      | box x k=>obtain ⟨l',q,_⟩:=hb;exact ⟨l',q⟩
    obtain ⟨l',hl'⟩:=hsome;have:=osame j l' (by simp only [muC,hg,Option.bind_some];exact hl');rw [e] at this;cases this;exact hl'
  have hviewKeep:∀b,b < w.heap.size→VOK cx ow s.vw b→w'.heap[b]? =w.heap[b]?∧ow2 b=ow b:=fun b hb hv=>hkeep b hb (owC_view hv hf)
  have hfresh:∀b,w.heap.size≤b→ow b=none:=by
    intro b hb;cases q:ow b with
    | none=>rfl
    | some z=>have:=(h.owl b (by rw [q];simp)).lt;omega
  have hback:∀b,ow' b=none→(vis b∨owC s ls ow b≠none∨w.heap.size≤b)→VOK cx ow2 s.vw b:=by
    intro b h0 hb
    by_cases hno:owC s ls ow b=none
    · have h2:ow2 b=ow b:=by simp [ow2,h0,hno]
      rcases hb with hb | hb | hb
      · exact VOK.mono hb h2 (fun q=>q)
      · exact absurd hno hb
      · exact ⟨.inl (h2.trans (hfresh b hb)),.inr (.inr (ql4 h.frm.size hb))⟩
    · have h2:ow2 b=none:=by simp [ow2,h0,hno]
      obtain ⟨_,_,_,q1,_⟩:=owC_ne hno;exact ⟨.inl h2,.inr (h.own b (by rw [q1];simp))⟩
  refine ⟨ow2,⟨h.dfr,h.sz,?_,?_,?_,?_,?_,?_,h.mu⟩⟩
  · intro t
    obtain ⟨bt,k1,k2⟩:=h.env t;exact ⟨bt,k1.keep (MLe.refl _) fun b hb=>(hviewKeep b (k1.lt b hb) (k2 b hb)).1,fun b hb=>(k2 b hb).mono (hviewKeep b (k1.lt b hb) (k2 b hb)).2 (fun q=>q)⟩
  · intro id bk e
    have move : ∀(j:Nat),O'[j]? =some bk→ls.getD j 0=id→BlkOK cx w' μ ow2 s.vw id bk:=by
      intro j hj hrho;have hb:=oblk j bk hj;have hk0:=hok' bk (qlb hj);have key:∀xs k,(k.nm || (k == .mix && V.onlyL (fun id=>Nat.blt id p) xs))=true→RowOK ⟨w,fun b=>owC s ls ow b≠none,vis,muC ls μ,[]⟩ w' μ' ow' false j xs k→RowOK cx w' μ ow2 s.vw id xs k:=by
        intro xs k hk ⟨l,q1,q2,q3⟩;have q1':=hren j l q1;rw [hrho] at q1';refine ⟨l,q1',q2,?_⟩;rcases q3 with q3 | ⟨q3,q4,bl,q5,q6,q7⟩
        · exact .inl q3
        · refine .inr ⟨q3,by simp only [ow2,q4];rw [hrho],bl,?_,?_,q7⟩
          · cases hn:k.nm with
            | true=>
              have e1:k.mu μ'=M0:=by cases k<;>first | rfl | exact absurd hn (by decide)
              have e2:k.mu μ=M0:=by cases k<;>first | rfl | exact absurd hn (by decide)
              rw [e2,←e1];exact q5
            | false=>
              rw [hn,Bool.false_or,qlo] at hk;have hkm:k=.mix:=by simpa using hk.1
              subst hkm;obtain ⟨c1,c2,c3,c,t,vs,c4,c5,c6,c7,c8⟩:=q5;refine ⟨c1,c2,c3,c,t,vs,c4,c5,RepL.only (p:=fun id=>Nat.blt id p) (fun i l hb e=> ?_) c6 (onlyL_flat hk.2),c7,c8⟩;have hlt:i < p:=by rwa [Nat.blt_eq] at hb
              have:=hren i l e;have hg:=hp i hlt;rw [qld,hg] at this;exact this
          · have view:∀b,VOK ⟨w,fun b=>owC s ls ow b≠none,vis,muC ls μ,[]⟩ ow' false b→VOK cx ow2 s.vw b:=fun b hvok=>by
              have h0:ow' b=none:=by
                rcases hvok.1 with q | ⟨q,_⟩
                · exact q
                · cases q
              exact hback b h0 hvok.2
            cases k with
            | flat | thin=>exact q6
            | deep=>exact ⟨q6.1,fun b hb=>by simp only [ow2,q6.2 b hb];rw [hrho]⟩
            | shal=>exact fun b hb=>view b (q6 b hb)
            | mix=>exact fun b hb=>view b (q6 b hb)
            | part=>simp [Kd.nm] at hk
      cases bk with
      | dead=>trivial
      | hid j' n'=>simp [Blk.okS] at hk0
      | arr xs k=>exact key xs k hk0 hb
      | box x k=>exact key [x] k hk0 hb
    have stay:s.O[id]? =some bk→idx ls id=none→BlkOK cx w' μ ow2 s.vw id bk:=by
      intro e0 hn;refine (h.blk id bk e0).keep (MLe.refl _) (fun q=>q) fun b hb hcase=>hkeep b hb ?_
      rcases hcase with q | q | q
      · simp [owC,q,hn]
      · simp [owC,q,hn]
      · exact owC_view q hf
    have e1:(setBlks s.O ls O')[id]? =some bk:=e;rw [setBlks_get ls s.O O' id hnd hlt] at e1;cases q:idx ls id with
    | none=>rw [q] at e1;exact stay e1 q
    | some j=>
      rw [q] at e1;have hj:=idx_spec q;have hjl2:j < ls.length:=by
        rcases qly j ls.length with z | z
        · exact z
        · rw [qlp z] at hj;cases hj
      have hjl:j < O'.length:=by omega
      simp only [List.getElem?_eq_getElem hjl,Option.some.injEq] at e1;exact move j (by rw [qla hjl,e1]) (by simp [hj])
  · intro id hid
    exact h.dom id (by have:(setBlks s.O ls O').length=s.O.length:=setBlks_len ..;show s.O.length≤id;rw [←this];exact hid)
  · intro b hb
    simp only [ow2] at hb;split at hb
    · rename_i r' j q
      exact oowl b (by rw [q];simp)
    · split at hb
      · rename_i hno;exact (h.owl b hb).keep (hkeep b (h.owl b hb).lt hno).1
      · exact absurd rfl hb
  · intro b hb
    simp only [ow2] at hb;split at hb
    · rename_i r' j q
      rcases oown b (by rw [q];simp) with z | z
      · obtain ⟨_,_,_,z1,_⟩:=owC_ne z
        exact h.own b (by rw [z1];simp)
      · exact .inr (ql4 h.frm.size z)
    · split at hb
      · exact h.own b hb
      · exact absurd rfl hb
  · refine ⟨ql4 h.frm.size ofrm.size,fun b hb hn=> ?_,ofrm.os.trans h.frm.os,ofrm.tape.trans h.frm.tape,ofrm.output.trans h.frm.output,fun x hx=>(ofrm.ice x (qmj hx h.frm.size)).trans (h.frm.ice x hx),h.frm.tab⟩
    have hlt2:b < w.heap.size:=qmj hb h.frm.size;have hno:owC s ls ow b=none:=by
      cases q:owC s ls ow b with
      | none=>rfl
      | some z=>
        obtain ⟨_,_,_,z1,_⟩:=owC_ne (s:=s) (ow:=ow) (ls:=ls) (b:=b) (by rw [q];simp);rcases h.own b (by rw [z1];simp) with y | y
        · exact absurd y hn
        · omega
    exact (hkeep b hlt2 hno).1.trans (h.frm.old b hb hn)
theorem call_state {K:V→St→Prop} (hT:cx.tabs=tabsOf P) (h:Rel cx s a w μ ow) (f:FuncId) (ls:List Nat) (args:List V) (vals:Array Value) (hv:vals.size=args.length)
    (hrep:∀i V,args[i]? =some V→∃bl,Rep w μ V (vals.getD i undef) bl∧∀b∈bl,VOK cx ow s.vw b) (hk:aCall P s f ls args K) :
    Calls P f vals w fun e w'=>∃v,e=.returned v∧∃val s' μ2 ow2,Rel cx s' a w' μ2 ow2∧s'.n=s.n∧(∃bl,Rep w' μ2 val v bl∧∀b∈bl,VOK cx ow2 s'.vw b)∧K val s':=by
  rcases hk with ⟨hvw,p,args',Ols,O',hargs,hOls,hnd,hp,hok,hlO',hok',hcold,hc,hk⟩ | ⟨O1,hp,hk⟩
  · obtain ⟨la,ga⟩:=toArgs_get hargs
    obtain ⟨lo,go⟩:=mapM_get hOls;have hO:∀j id:Nat,ls[j]? =some id→id < s.O.length∧s.O[id]? =Ols[j]? :=fun j id hj=>by
      have hjl:j < Ols.length:=by
        rw [←lo];rcases qly j ls.length with q | q
        · exact q
        · rw [qlp q] at hj;cases hj
      obtain ⟨id',h1,h2⟩:=go j _ (qla hjl);rw [hj] at h1;cases h1;refine ⟨?_,by rw [h2,qla hjl]⟩;rcases qly id s.O.length with q | q
      · exact q
      · rw [qlp q] at h2;cases h2
    have hlt:∀id∈ls,id < s.O.length:=fun id hid=>by
      obtain ⟨j,hj⟩:=List.getElem?_of_mem hid;exact (hO j id hj).1
    refine (call_S hT h hvw f ls p args' vals Ols O' hc hnd hp hO lo.symm hlO' hok hok' (by rw [hv,la]) fun i v' e=> ?_).mono ?_
    · obtain ⟨v,e1,e2⟩:=ga i v' e
      obtain ⟨bl,r1,r2⟩:=hrep i v e1;obtain ⟨bl',k1,k2,k3⟩:=toArg_rep h.sup hlt (.inl hvw) r1 r2 e2;refine ⟨bl',k1,fun b hb=> ?_⟩;rcases coldIn_cases (hcold v (qlb e1)) with q | q
      · exact r2 b (k3 q b hb)
      · rw [lent_nil q e2 k1] at hb;cases hb
    · rintro e w' ⟨v,he,ow2,hr⟩
      exact ⟨v,he,.any,_,μ,ow2,hr,rfl,⟨[],.any _,by simp⟩,hk⟩
  rcases hp with rfl | ⟨_,_,hp⟩
  · exact call_state0 hT h f ls args vals hv hrep hk
  · obtain ⟨ow1,h1,h2⟩:=hp cx s.env s.n s.mask a w μ ow h
    exact call_state0 (s:={s with O:=O1}) hT h1 f ls args vals hv (fun i V e=>by
      obtain ⟨bl,r1,r2⟩:=hrep i V e;exact ⟨bl,r1,fun b hb=>h2 b (r2 b hb)⟩) hk
end
end Go.Vm
namespace Go.Vm
open Go
section
variable {P:Program} {cx:Cx} {s:St} {a:Act} {w:World} {μ:Nat→Option Loc} {ow:Ow}
theorem VOK.mono2 {ow':Ow} {vw:Bool} {b:Nat} (h:VOK cx ow vw b) (h0:ow b=none→ow' b=none) (h1:∀id,ow b=some (false,id)→ow' b=none∨∃id',ow' b=some (false,id')):VOK cx ow' vw b:=by
  refine ⟨?_,h.2⟩;rcases h.1 with e | ⟨e1,id,e2⟩
  · grind
  grind
theorem frozen_setRow (w:World) (g:Nat) (cs:Array Value) (x:Addr):(w.setRow g cs).frozen? x=w.frozen? x:=by
  by_cases h:x.block=g
  · simp only [World.frozen?,World.setRow,h,Array.getElem?_modify,if_true]
    grind
  grind[World.frozen?,setRow_other]
theorem Rel.mut (h:Rel cx s a w μ ow) {w':World} {μ':Nat→Option Loc} {ow':Ow} {O':List Blk} (T:Nat→Prop) (hm:MLe μ μ') (hdom:∀id,O'.length≤id→μ' id=none)
    (hsize:w.heap.size≤w'.heap.size) (hold:∀b,b < w.heap.size→(∀id,ow b=some (true,id)→¬T id)→w'.heap[b]? =w.heap[b]?) (hos:w'.os=w.os) (htape:w'.tape=w.tape) (hout:w'.output=w.output) (hice:∀x,x.block < w.heap.size→w'.frozen? x=w.frozen? x)
    (h0:∀b,b < w.heap.size→ow b=none→ow' b=none) (h1:∀b id,ow b=some (false,id)→ow' b=none∨∃id',ow' b=some (false,id'))
    (hblk:∀id bk,O'[id]? =some bk→(s.O[id]? =some bk∧¬T id∧∀b r,ow b=some (r,id)→ow' b=ow b)∨BlkOK cx w' μ' ow' s.vw id bk)
    (howl:∀b,ow' b≠none→Live w' b) (hown:∀b,ow' b≠none→ow b≠none∨w.heap.size≤b):Rel cx {s with O:=O'} a w' μ' ow':=by
  have hv:∀b,b < w.heap.size→VOK cx ow s.vw b→w'.heap[b]? =w.heap[b]?∧VOK cx ow' s.vw b:=by
    intro b hb hvok;refine ⟨hold b hb fun id e=>(hvok.not_root e).elim,hvok.mono2 (h0 b hb) (h1 b)⟩
  refine ⟨h.dfr,h.sz,?_,?_,hdom,howl,?_,?_,h.mu.trans hm⟩
  · intro t
    obtain ⟨bl,r1,r2⟩:=h.env t;exact ⟨bl,r1.keep hm fun b hb=>(hv b (r1.lt b hb) (r2 b hb)).1,fun b hb=>(hv b (r1.lt b hb) (r2 b hb)).2⟩
  · intro id bk e
    rcases hblk id bk e with ⟨e0,hT,hsame⟩ | q
    · have hb:=h.blk id bk e0
      have key:∀xs k,RowOK cx w μ ow s.vw id xs k→RowOK cx w' μ' ow' s.vw id xs k:=by
        intro xs k ⟨l,q1,q2,q3⟩;refine ⟨l,hm _ _ q1,q2,?_⟩;rcases q3 with q3 | ⟨q3,q4,bl,q5,q6,q7⟩
        · exact .inl q3
        · have hroot:w'.heap[l.b]? =w.heap[l.b]? :=hold l.b q5.lt fun id' e'=>by rw [q4] at e';cases e';exact hT
          have hnest:∀b∈bl,w'.heap[b]? =w.heap[b]? :=by
            intro b hbb;have hlt:b < w.heap.size:=by obtain ⟨vs,c1,_,_⟩:=q5.rowOf;exact c1.lt b hbb
            cases k with
            | flat | thin=>have:bl=[]:=q6;subst this;cases hbb
            | deep=>exact hold b hlt fun id' e'=>by rw [q6.2 b hbb] at e';cases e'
            | shal=>exact (hv b hlt (q6 b hbb)).1
            | mix=>exact (hv b hlt (q6 b hbb)).1
            | part=>exact hold b hlt fun id' e'=>by rw [q6.2 b hbb] at e';cases e'
          refine .inr ⟨q3,(hsame _ _ q4).trans q4,bl,q5.keep (Kd.mu_mono hm) hroot hnest,?_,q7⟩;have hlt:∀b∈bl,b < w.heap.size:=by obtain ⟨vs,c1,_,_⟩:=q5.rowOf;exact c1.lt
          cases k with
          | flat | thin=>exact q6
          | deep=>exact ⟨q6.1,fun b hbb=>(hsame _ _ (q6.2 b hbb)).trans (q6.2 b hbb)⟩
          | shal=>exact fun b hbb=>(hv b (hlt b hbb) (q6 b hbb)).2
          | mix=>exact fun b hbb=>(hv b (hlt b hbb) (q6 b hbb)).2
          | part=>exact ⟨q6.1,fun b hbb=>(hsame _ _ (q6.2 b hbb)).trans (q6.2 b hbb)⟩
      cases bk with
      | dead=>trivial
      | hid j' n'=>obtain ⟨l1,l2,h1,h2,h3⟩:=hb;exact ⟨l1,l2,hm _ _ h1,hm _ _ h2,h3⟩
      | arr xs k=>exact key xs k hb
      | box x k=>exact key [x] k hb
    · exact q
  · intro b hb
    rcases hown b hb with q | q
    · exact h.own b q
    · exact .inr (ql4 h.frm.size q)
  · refine ⟨ql4 h.frm.size hsize,fun b hb hn=> ?_,hos.trans h.frm.os,htape.trans h.frm.tape,hout.trans h.frm.output,fun x hx=>(hice x (qmj hx h.frm.size)).trans (h.frm.ice x hx),h.frm.tab⟩
    refine (hold b (qmj hb h.frm.size) fun id e=> ?_).trans (h.frm.old b hb hn);rcases h.own b (by rw [e];simp) with q | q
    · exact absurd q hn
    · omega
theorem getElem?_append3 {α:Type} (xs ys zs:List α) (o:Nat) (ho:xs.length=o) (j:Nat):(xs++ys++zs)[j]? =if j < o then xs[j]? else if j < o+ys.length then ys[j - o]? else zs[j - o - ys.length]? :=by
  grind
theorem cells_put {μ':Nat→Option Loc} {l:Loc} {xs':List V} {bl':List Nat} {o:Nat} {news vs vs':List Value} (c:Array Value) (t:TypeId) (hc:w.heap[l.b]? =some (.cells c t (0,0)))
    (g5:l.off+l.cap * l.sz≤c.size) (g2:0 < l.sz) (g7:∀v∈vs,v.oneCell'=true) (g8:∀j x,vs[j]? =some x→c[l.off+j]? =some x)
    (hlen:xs'.length≤l.cap) (hfit:o+news.length≤l.cap * l.sz) (hz:∀x∈xs',x.cells.length=l.sz) (h1:∀v∈news,v.oneCell'=true)
    (k1:RepL w μ' (xs'.flatMap V.cells) vs' bl') (k2:vs'=(vs.take o++news++vs.drop (o+news.length)).take vs'.length) (k3:o≤vs.length)
    (hbl:∀b∈bl',b≠l.b) :
    Cells (w.setRow l.b (c.toList.take (l.off+o)++news++c.toList.drop (l.off+o+news.length)).toArray) μ' {l with n:=xs'.length} xs' bl':=by
  have hsz:(c.toList.take (l.off+o)++news++c.toList.drop (l.off+o+news.length)).length=c.size:=by grind
  refine ⟨hlen,g2,hz,_,t,vs',setRow_heap w l.b c _ t _ hc,?_,?_,?_,?_⟩
  · grind
  · exact k1.keep (MLe.refl _) fun b hb=>setRow_other w l.b b _ (hbl b hb)
  · grind
  · intro j x hj
    have hjl:j < vs'.length:=by
      grind
    rw [k2,List.getElem?_take_of_lt hjl] at hj;have hcl:(c.toList.take (l.off+o)).length=l.off+o:=by grind
    show (c.toList.take (l.off+o)++news++c.toList.drop (l.off+o+news.length)).toArray[l.off+j]? =some x;rw [List.getElem?_toArray,getElem?_append3 _ _ _ _ hcl]
    by_cases hj1:j < o
    · grind
    · have htl:(vs.take o).length=o:=by grind
      rw [getElem?_append3 _ _ _ _ htl,if_neg hj1] at hj;rw [if_neg (by omega)]
      by_cases hj2:j < o+news.length
      · grind
      · rw [if_neg hj2,List.getElem?_drop] at hj
        rw [if_neg (by omega),List.getElem?_drop]
        grind
end
end Go.Vm
namespace Go.Vm
open Go
theorem killAll_len:∀(ids:List Nat) (O:List Blk),(killAll O ids).length=O.length
  | [],O=>rfl
  | id::l,O=>by rw [killAll,killAll_len];simp
theorem killAll_get:∀(ids:List Nat) (O:List Blk) (j:Nat) (bk:Blk),(killAll O ids)[j]? =some bk→bk≠.dead→O[j]? =some bk∧j ∉ ids
  | [],O,j,bk,h,_=>⟨h,by simp⟩
  | id::l,O,j,bk,h,hd=>by
    obtain ⟨h1,h2⟩:=killAll_get l _ j bk h hd
    by_cases e:id=j
    · grind
    grind
section
variable {P:Program} {cx:Cx} {s:St} {a:Act} {w:World} {μ:Nat→Option Loc} {ow:Ow}
theorem takeCell_rep (h:Sup cx s a w μ ow) {v v':V} {x:Value} {bl:List Nat} {ids:List Nat} {vi:Bool} (hr:Rep w μ v x bl) (hb:∀b∈bl,VOK cx ow s.vw b) (ht:takeCell s v=some (v',ids,vi)) :
    ∃bl',Rep w M0 v' x bl'∧v'.isVal=true∧((vi=false→ids=[]→bl'=[])∧(ids=[]→∀b∈bl',VOK cx ow s.vw b))∧(vi=false→bl'.Nodup∧∀b∈bl',∃id∈ids,∃r,ow b=some (r,id))∧(vi=true→ids=[]):=by
  have plain:v'=v→ids=[]→vi=false→Rep w M0 v x []→v.isVal=true→∃bl',Rep w M0 v' x bl'∧v'.isVal=true∧((vi=false→ids=[]→bl'=[])∧(ids=[]→∀b∈bl',VOK cx ow s.vw b))∧(vi=false→bl'.Nodup∧∀b∈bl',∃id∈ids,∃r,ow b=some (r,id))∧(vi=true→ids=[]):=by
    grind
  cases v with
  | int k n=>cases hr;simp [takeCell] at ht;obtain ⟨rfl,rfl,rfl⟩:=ht;exact plain rfl rfl rfl (.int k n) rfl
  | bool t=>cases hr;simp [takeCell] at ht;obtain ⟨rfl,rfl,rfl⟩:=ht;exact plain rfl rfl rfl (.bool t) rfl
  | str t=>cases hr;simp [takeCell] at ht;obtain ⟨rfl,rfl,rfl⟩:=ht;exact plain rfl rfl rfl (.str t) rfl
  | npt=>cases hr;simp [takeCell] at ht;obtain ⟨rfl,rfl,rfl⟩:=ht;exact plain rfl rfl rfl .npt rfl
  | nfn=>cases hr;simp [takeCell] at ht;obtain ⟨rfl,rfl,rfl⟩:=ht;exact plain rfl rfl rfl .nfn rfl
  | nsl=>
    cases hr with
    | nsl q=>simp [takeCell] at ht;obtain ⟨rfl,rfl,rfl⟩:=ht;exact ⟨[],.sl0 q 0,rfl,by simp,by simp,by simp⟩
  | sl xs=>
    simp [takeCell] at ht;obtain ⟨rfl,rfl,rfl⟩:=ht;refine ⟨bl,?_,rfl,⟨by simp,fun _=>hb⟩,by simp,by simp⟩;cases hr with
    | sl0 q c=>exact .sl0 q c
    | sl _ b off c sz vs bl h0 hc hs hz hl h1 hr'=>exact .sl _ b off c sz vs bl h0 hc hs hz hl h1 hr'
  | agg=>simp [takeCell] at ht
  | tup=>simp [takeCell] at ht
  | opt=>simp [takeCell] at ht
  | any=>simp [takeCell] at ht
  | fn=>simp [takeCell] at ht
  | pv=>simp [takeCell] at ht
  | sub=>simp [takeCell] at ht
  | ptr=>simp [takeCell] at ht
  | ref id =>
    simp only [takeCell] at ht;cases hrow:s.row id with
    | none=>grind
    | some xk =>
      obtain ⟨xs,k⟩:=xk;rw [hrow] at ht;simp only at ht;cases hk:(k == .flat || k == .deep || k == .thin) with
      | false=>grind
      | true =>
        rw [hk,cond_true] at ht;simp only [Option.some.injEq,Prod.mk.injEq] at ht;obtain ⟨rfl,rfl,rfl⟩:=ht;obtain ⟨l,h1,h2,h3⟩:=h.row hrow;have hmu:k.mu μ=M0:=by cases k<;>first | rfl | grind
        cases hr with
        | ref _ l' _ hl hd=>
          rw [hl] at h1;obtain rfl:=Option.some.inj h1;rcases h3 with ⟨h3,h4⟩ | ⟨h3,h4,bl,h5,h6,h7⟩
          · subst h4
            cases hd with
            | nil q _ _=>exact ⟨[],.sl0 q 0,rfl,by simp,by simp,by simp⟩
            | real hreal=>grind
          · cases hd with
            | nil _ hf' _=>grind
            | real _=>
              rw [hmu] at h5;have hown:(∀b∈l'.b::bl,∃r,ow b=some (r,id))∧(l'.b::bl).Nodup:=by
                cases k with
                | flat | thin=>have:bl=[]:=h6;grind
                | deep=>
                  refine ⟨fun b hb=> ?_,List.nodup_cons.2 ⟨fun hm=> ?_,h6.1⟩⟩
                  · cases ql0.1 hb with
                    | inl e=>grind
                    | inr e=>exact ⟨false,h6.2 b e⟩
                  · have:=h6.2 _ hm;grind
                | shal=>grind
                | mix=>grind
                | part=>grind
              by_cases hn0:xs=[]
              · subst hn0
                have:l'.n=0:=by omega
                rw [this];exact ⟨[],.sl0 _ _,rfl,by simp,by simp,by simp⟩
              · obtain ⟨vs,c1,c2,c3⟩:=h5.rowOf
                have:=Rep.sl (w:=w) (μ:=M0) xs l'.b l'.off l'.cap l'.sz vs bl hn0 ⟨by have:=h5.le;omega,by obtain ⟨cc,tt,_,g1,g2,_⟩:=h5.row;exact ⟨cc,tt,_,g1,g2⟩⟩ h5.sz h5.each c1 c2 c3;rw [←h2] at this;exact ⟨l'.b::bl,this,rfl,by simp,fun _=>⟨hown.2,fun b hb=>⟨id,by simp,hown.1 b hb⟩⟩,by simp⟩
theorem takeCells_rep (h:Sup cx s a w μ ow):∀{cs cs':List V} {xs:List Value} {bl:List Nat} {ids:List Nat} {vi:Bool},RepL w μ cs xs bl→(∀b∈bl,VOK cx ow s.vw b)→takeCells s cs=some (cs',ids,vi)→ids.Nodup→
    ∃bl',RepL w M0 cs' xs bl'∧((vi=false→ids=[]→bl'=[])∧(ids=[]→∀b∈bl',VOK cx ow s.vw b))∧(vi=false→bl'.Nodup∧∀b∈bl',∃id∈ids,∃r,ow b=some (r,id))
  | [],cs',_,_,ids,vi,hr,_,ht,_=>by
    cases hr;simp [takeCells] at ht;obtain ⟨rfl,rfl,rfl⟩:=ht;exact ⟨[],.nil,by simp,by simp⟩
  | c ::cs,cs',_,_,ids,vi,hr,hb,ht,hnd=>by
    cases hr with
    | cons _ x b1 _ xs b2 hc hrest=>
      unfold takeCells at ht;cases q1:takeCell s c with
      | none=>grind
      | some r1=>
        obtain ⟨c',l1,v1⟩:=r1;cases q2:takeCells s cs with
        | none=>grind
        | some r2=>
          obtain ⟨cs2,l2,v2⟩:=r2;rw [q1,q2] at ht;simp only [Option.some.injEq,Prod.mk.injEq] at ht;obtain ⟨rfl,rfl,rfl⟩:=ht;have hn:=List.nodup_append.1 hnd;obtain ⟨d1,e1,_,e3,e4,e5⟩:=takeCell_rep h hc (fun b hbb=>hb b (qmc _ hbb)) q1;obtain ⟨d2,g1,g3,g4⟩:=takeCells_rep h hrest (fun b hbb=>hb b (qmk _ hbb)) q2 hn.2.1;refine ⟨d1++d2,.cons _ _ _ _ _ _ e1 g1,⟨fun hv hi=> ?_,fun hi b hbb=> ?_⟩,fun hv=> ?_⟩
          · simp_all
          · grind[List.append_eq_nil_iff]
          · simp only [Bool.or_eq_false_iff] at hv
            obtain ⟨m1,m2⟩:=e4 hv.1;obtain ⟨m3,m4⟩:=g4 hv.2;refine ⟨List.nodup_append.2 ⟨m1,m3,fun x hx y hy e=> ?_⟩,fun b hbb=> ?_⟩
            · grind
            grind
theorem takeV_rep (h:Sup cx s a w μ ow) {v v':V} {x:Value} {bl:List Nat} {ids:List Nat} {vi:Bool} (hr:Rep w μ v x bl) (hb:∀b∈bl,VOK cx ow s.vw b) (ht:takeV s v=some (v',ids,vi)) (hnd:ids.Nodup) :
    ∃bl',RepL w M0 v'.cells x.cells.toList bl'∧(∀c∈x.cells.toList,c.oneCell'=true)∧((vi=false→ids=[]→bl'=[])∧(ids=[]→∀b∈bl',VOK cx ow s.vw b))∧(vi=false→bl'.Nodup∧∀b∈bl',∃id∈ids,∃r,ow b=some (r,id)):=by
  have one:takeCell s v=some (v',ids,vi)→∃bl',RepL w M0 v'.cells x.cells.toList bl'∧(∀c∈x.cells.toList,c.oneCell'=true)∧((vi=false→ids=[]→bl'=[])∧(ids=[]→∀b∈bl',VOK cx ow s.vw b))∧(vi=false→bl'.Nodup∧∀b∈bl',∃id∈ids,∃r,ow b=some (r,id)):=by
    intro q;obtain ⟨bl',r1,r2,r3,r4,_⟩:=takeCell_rep h hr hb q;obtain ⟨c1,c2⟩:=r1.cells r2
    grind
  cases v with
  | agg cs=>
    simp only [takeV] at ht;cases q:takeCells s cs with
    | none=>grind
    | some r=>
      obtain ⟨cs',l,b⟩:=r;rw [q] at ht;simp only [Option.some.injEq,Prod.mk.injEq] at ht;obtain ⟨rfl,rfl,rfl⟩:=ht;cases hr with
      | agg _ vs _ hl h1=>
        obtain ⟨bl',r1,r2,r3⟩:=takeCells_rep h hl hb q hnd;exact ⟨bl',r1,h1,r2,r3⟩
  | _=>exact one ht
end
end Go.Vm
