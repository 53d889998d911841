/- The value machine, part 9. -/
import Derived.Lib.Overlaps
import Derived.Lib.AppendZerosOnto
import Derived.Laws.Externs
import Derived.Lib.Walk
import Derived.Shelf.RegionOpenPlain
import Derived.Test.YtmhaafinhpopmaaGreatDoorUmH
set_option linter.unusedSimpArgs false
set_option linter.unusedVariables false
set_option linter.defProp false
namespace Go.Vm
open Go
structure LeftRow (w:World) (own:Nat→Prop) (n sz:Nat) (news:List Value) (e:Ending) (w':World):Prop where
  out:∃B OFF CAP c t,e=.returned (.slice (some ⟨B,OFF,none⟩) n CAP)∧n≤CAP∧OFF+CAP * sz≤c.size∧(own B∨w.heap.size≤B)∧
    w'.heap[B]? =some (.cells c t (0,0))∧∀j x,news[j]? =some x→c[OFF+j]? =some x
  size:w.heap.size≤w'.heap.size
  old:∀b,b < w.heap.size→¬own b→w'.heap[b]? =w.heap[b]?
  os:w'.os=w.os
  tape:w'.tape=w.tape
  output:w'.output=w.output
  ice:∀x,x.block < w.heap.size→w'.frozen? x=w.frozen? x
theorem con_left {P:Program} {f:FuncId} {args:List V} {O:List Blk} {ys:List V} {ky:Kd} {sz:Nat} (hf:∃fn,P.funcs[f]? =some fn∧(fn.name == "runtime.NumGoroutine")=false∧fn.body.isNone=false)
    (hk:(ky=.flat∧ys≠[])∨ky=.thin) (hs:0 < sz) (hz:∀y∈ys,y.cells.length=sz)
    (h:∀(w:World) (vals:Array Value) (μ:Nat→Option Loc) (ow:Ow) (vis:Nat→Prop),Inp P w vals args O μ ow vis→
      ∃news,(∀w',RepL w' M0 (ys.flatMap V.cells) news [])∧(∀v∈news,v.oneCell'=true)∧Calls P f vals w (LeftRow w (fun b=>ow b≠none) ys.length sz news)) :
    Con P f args O (.ref O.length) (List.replicate O.length .dead++[.arr ys ky]):=by
  refine ⟨hf,fun w vals μ ow vis hi=> ?_⟩;obtain ⟨news,hr,h1,hc⟩:=h w vals μ ow vis hi;refine hc.mono ?_;rintro e w' hl;obtain ⟨⟨B,OFF,CAP,c,t,rfl,hn,hfit,hown,hb,hcell⟩,l1,l2,l3,l4,l5,l6⟩:=hl;let loc:Loc:=⟨B,OFF,sz,ys.length,CAP,true⟩;let μ':Nat→Option Loc:=fun id=>if id=O.length then some loc else μ id
  let ow':Ow:=fun b=>if b=B then some (true,O.length) else none
  have hm:MLe μ μ':=fun id l e=>by
    show (if id=O.length then some loc else μ id)=some l
    by_cases q:id=O.length
    · rw [q,hi.dom O.length (qlf _)] at e;cases e
    grind
  have hkm:ky.mu μ'=M0:=by rcases hk with ⟨rfl,_⟩ | rfl<;>rfl
  refine ⟨_,μ',ow',rfl,⟨⟨[],.ref O.length loc _ (by grind) (.real rfl),by simp⟩,fun id bk e=> ?_,fun bk hbk=> ?_,hm,by simp,fun id hid=> ?_,fun b hbo=> ?_,fun b hbo=> ?_,⟨l1,fun b hb1 hno=>l2 b hb1 hno,l3,l4,l5,l6,fun _ hp=>nomatch hp⟩⟩⟩
  · rcases qlp id O.length with q | q
    · rw [qli (by grind),List.getElem?_replicate,if_pos q] at e
      cases e;trivial
    · rw [qlj (by grind),List.length_replicate] at e
      cases hq:id - O.length with
      | succ k=>grind
      | zero=>
        rw [hq] at e;obtain rfl:id=O.length:=by omega
        simp only [List.getElem?_cons_zero,Option.some.injEq] at e;subst e;refine ⟨loc,by grind,rfl,.inr ⟨rfl,by grind,[],⟨hn,hs,hz,c,t,news,hb,hfit,by grind,h1,hcell⟩,by rcases hk with ⟨rfl,_⟩ | rfl<;>rfl,fun q2=> ?_⟩⟩
        grind
  · rcases qlh.1 hbk with q | q
    · rw [List.eq_of_mem_replicate q];rfl
    · rw [qlq] at q;subst q
      rcases hk with ⟨rfl,_⟩ | rfl<;>rfl
  · simp only [List.length_append,List.length_replicate,List.length_singleton] at hid
    show (if id=O.length then some loc else μ id)=none;rw [if_neg (by omega)];exact hi.dom id (by omega)
  · have e:b=B:=by
      grind
    subst e;exact ⟨c,t,hb⟩
  grind
theorem inp_row {P:Program} {w:World} {vals:Array Value} {args:List V} {O:List Blk} {μ:Nat→Option Loc} {ow:Ow} {vis:Nat→Prop} (hi:Inp P w vals args O μ ow vis) {i id:Nat} {xs:List V} {k:Kd} (ha:args[i]? =some (.ref id)) (hO:O[id]? =some (.arr xs k)) (hk:k=.flat∨k=.thin) :
    (xs=[]∧∃a,vals.getD i undef=.slice a 0 0)∨∃(l:Loc) (c:Array Value) (t:TypeId) (vs:List Value),vals.getD i undef=.slice (some ⟨l.b,l.off,none⟩) xs.length l.cap∧ow l.b=some (true,id)∧w.heap[l.b]? =some (.cells c t (0,0))∧xs.length≤l.cap∧l.off+l.cap * l.sz≤c.size∧0 < l.sz∧
      (∀x∈xs,x.cells.length=l.sz)∧(∀w',RepL w' M0 (xs.flatMap V.cells) vs [])∧(∀v∈vs,v.oneCell'=true)∧(∀j x,vs[j]? =some x→c[l.off+j]? =some x)∧(k≠.thin→xs≠[]):=by
  obtain ⟨l,hl,hn,h3⟩:=hi.blk id _ hO;obtain ⟨b0,r0,_⟩:=hi.arg i _ ha;generalize vals.getD i undef=x at r0⊢;cases r0 with
  | ref _ l2 _ hm hd=>
    rw [hl] at hm;obtain rfl:=Option.some.inj hm;rcases h3 with ⟨hr,hx⟩ | ⟨hr,ho,bl,hc,hb,hth⟩
    · cases hd with
      | real q=>grind
      | nil a _ _=>grind
    · cases hd with
      | nil a q _=>grind
      | real _=>
        have hbl:bl=[]:=by rcases hk with rfl | rfl<;>exact hb
        subst hbl;have hkm:k.mu μ=M0:=by rcases hk with rfl | rfl<;>rfl
        rw [hkm] at hc;obtain ⟨c1,c2,c3,c,t,vs,c4,c5,c6,c7,c8⟩:=hc;refine .inr ⟨l,c,t,vs,by rw [hn],ho,c4,by omega,c5,c2,c3,fun w'=> ?_,c7,c8,hth⟩;exact c6.keep (MLe.refl _) (fun b hb=>by grind)
theorem run_copy_at {P:Program} {w:World} {tS ty e:TypeId} {g o dLen dCap:Nat} {a:Addr} {sLen sCap:Nat} {cur:Array Value} {t:TypeId} {cs:List Value}
    (hu:P.underlying tS=some (.slice e)) (hp:0 < P.cellsOf e) (hg:w.heap[g]? =some (.cells cur t (0,0))) (hn:cs.length=Nat.min sLen dLen * P.cellsOf e)
    (hsrc:∀j v,cs[j]? =some v→w.cell? (a.add j)=some v) (hfit:o+cs.length≤cur.size) (h1:∀v∈cs,v.oneCell'=true) :
    (Builtin.copy_ #[tS,tS] ty #[.slice (some ⟨g,o,none⟩) dLen dCap,.slice (some a) sLen sCap]).run P w =
      .ok (goInt (Nat.min sLen dLen)) (w.setRow g (cur.toList.take o++cs++cur.toList.drop (o+cs.length)).toArray):=by
  have hl:=run_loadCells_list (P:=P) w a cs hsrc;have hst:=run_storeCells_at P g o t cs 0 cur w hg (by omega) h1;obtain ⟨i,hi,hs⟩:=info_of_cells hp
  simp_all[Builtin.copy_,run_underlying,Builtin.lenOf,Builtin.firstCells,sizeOf,typeInfo]
theorem over_get {c:Array Value} {cs:List Value} {o j:Nat} (h:o+cs.length≤c.size) :
    (c.toList.take o++cs++c.toList.drop (o+cs.length)).toArray[j]? =if o≤j∧j < o+cs.length then cs[j - o]? else c[j]? :=by
  have hl:(c.toList.take o).length=o:=by grind
  simp only [List.getElem?_toArray]
  by_cases h1:j < o
  · grind
  · by_cases h2:j < o+cs.length
    · grind
    grind
theorem over_size {c:Array Value} {cs:List Value} {o:Nat} (h:o+cs.length≤c.size):(c.toList.take o++cs++c.toList.drop (o+cs.length)).toArray.size=c.size:=by
  grind
theorem vals_three {vals:Array Value} (h:vals.size=3):vals=#[vals.getD 0 undef,vals.getD 1 undef,vals.getD 2 undef]:=by
  apply Array.ext
  · omega
  · intro i hi1 hi2
    simp at hi2;rcases (show i=0∨i=1∨i=2 by omega) with rfl | rfl | rfl<;>simp [Array.getD,h]
theorem inp_int {P:Program} {w:World} {vals:Array Value} {args:List V} {O:List Blk} {μ:Nat→Option Loc} {ow:Ow} {vis:Nat→Prop} (hi:Inp P w vals args O μ ow vis) {i:Nat} {k:IntKind} {n:Int} (ha:args[i]? =some (.int k n)):vals.getD i undef=.int k n:=by
  obtain ⟨b0,r0,_⟩:=hi.arg i _ ha;generalize vals.getD i undef=x at r0⊢;cases r0;rfl
end Go.Vm
