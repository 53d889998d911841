/- The value machine, part 7. -/
import Derived.Sort.Grow
import Derived.Lib.LaidTab
import Derived.Lib.Join
import Derived.Below
import Derived.Deep.Draws
import Derived.Test.YtaefoaghpehbpaaGreatUmF
set_option linter.unusedSimpArgs false
set_option linter.unusedVariables false
set_option linter.defProp false
namespace Go.Vm
open Go
section
variable {α:Type} {f:α→V}
def c53 (N:Nat) (l:List α):V:=if l.isEmpty then .sl [] else .ref N
def d53 (f:α→V) (l:List α):Blk:=if l.isEmpty then .dead else .arr (l.map f) .flat
def c6q (b:Nat):List (Option Loc)→Option Nat
  | []=>none
  | o::l=>if o.map Loc.b=some b then some 0 else (c6q b l).map (·+1)
theorem c9f {b:Nat}:∀{l:List (Option Loc)} {i:Nat},c6q b l=some i→∃loc,l[i]? =some (some loc)∧loc.b=b
  | [],_,h=>by cases h
  | o ::l,i,h=>by
    rw [c6q] at h
    split at h
    · rename_i e
      cases h
      cases o with
      | none=>cases e
      | some loc=>simp at e;exact ⟨loc,rfl,e⟩
    · rw [Option.map_eq_some_iff] at h
      obtain ⟨j,h1,h2⟩:=h
      subst h2
      obtain ⟨loc,q1,q2⟩:=c9f h1
      exact ⟨loc,by simpa using q1,q2⟩
theorem c67:∀{l:List (Option Loc)} {i:Nat} {loc:Loc},(l.filterMap (Option.map Loc.b)).Nodup→l[i]? =some (some loc)→c6q loc.b l=some i
  | [],_,_,_,h=>by simp at h
  | o::l,0,loc,_,h=>by
    simp at h;subst h
    rw [c6q];exact if_pos rfl
  | o ::l,i+1,loc,hn,h=>by
    have h':l[i]? =some (some loc):=by simpa using h
    have hmem:loc.b∈l.filterMap (Option.map Loc.b):=List.mem_filterMap.2 ⟨some loc,List.mem_of_getElem? h',rfl⟩
    cases o with
    | none=>
      rw [c6q,if_neg (by simp),c67 (by simpa using hn) h'];rfl
    | some loc0=>
      simp only [List.filterMap_cons,Option.map_some,List.nodup_cons] at hn
      rw [c6q,if_neg (by intro e;simp at e;rw [e] at hn;exact hn.1 hmem),c67 hn.2 h'];rfl
theorem d7v {b:Nat} {l:List (Option Loc)} (h:b ∉ l.filterMap (Option.map Loc.b)):c6q b l=none:=by
  cases e:c6q b l with
  | none=>rfl
  | some i=>
    obtain ⟨loc,h1,h2⟩:=c9f e
    exact absurd (List.mem_filterMap.2 ⟨some loc,List.mem_of_getElem? h1,by rw [←h2];rfl⟩) h
end
end Go.Vm
namespace Go.Vm
open Go
end Go.Vm
namespace Go.Vm
open Go
theorem d7h {w:World} {μ:Nat→Option Loc}:∀(ns:List Int) {vs:List Value} {bl:List Nat},RepL w μ ((ns.map (V.int .i64)).flatMap V.cells) vs bl→vs=ns.map (Value.int .i64)
  | [],vs,bl,h=>by cases h;rfl
  | n ::ns,vs,bl,h=>by
    simp only [List.map_cons,List.flatMap_cons,V.cells,List.cons_append,List.nil_append] at h
    cases h with
    | cons _ x bl _ xs bl' h1 h2=>
      have:=d7h ns h2
      rw [this,h1.int_inv];rfl
theorem d7b {w:World} {μ:Nat→Option Loc}:∀ns:List Int,RepL w μ ((ns.map (V.int .i64)).flatMap V.cells) (ns.map (Value.int .i64)) []
  | []=>.nil
  | n::ns=>by
    simp only [List.map_cons,List.flatMap_cons,V.cells,List.cons_append,List.nil_append]
    exact .cons _ _ [] _ _ [] (.int _ _) (d7b ns)
def b4l (zs:List Int):List Int:=zs.mergeSort fun x y=>decide (x≤y)
theorem c3k (zs:List Int):(b4l zs).length=zs.length:=List.length_mergeSort ..
theorem f27 {P:Program} {f:FuncId} (zs:List Int) (hf:∃fn,P.funcs[f]? =some fn∧(fn.name == "runtime.NumGoroutine")=false∧fn.body.isNone=false) (hne:zs≠[])
    (h:∀(blk off cap:Nat) (w:World),Sort.Holds (Value.int .i64) w blk off zs.toArray→blk < w.heap.size→Calls P f #[.slice (some ⟨blk,off,none⟩) zs.length cap] w fun e w'=>
      e=.returned (.tuple #[])∧∃n os,w'=Sort.grow (Sort.putRow (Value.int .i64) (Sort.ahead w n) blk off (b4l zs).toArray) os) :
    Con P f [.ref 0] [.arr (zs.map (V.int .i64)) .flat] (.tup []) [.arr ((b4l zs).map (V.int .i64)) .flat]:=by
  refine ⟨hf,fun w vals μ ow vis hi=> ?_⟩
  obtain ⟨l,hl,hn,h3⟩:=hi.blk 0 _ rfl
  rcases h3 with ⟨_,h3⟩ | ⟨hreal,hroot,bl,⟨c1,c2,c3,c,t,vs,c4,c5,c6,c7,c8⟩,hk,hne'⟩
  · exact absurd (by simpa using h3) hne
  have hbl:bl=[]:=hk
  subst hbl
  have hvs:=d7h zs c6
  subst hvs
  have hsz:l.sz=1:=by
    obtain ⟨z,hz⟩:=List.exists_mem_of_ne_nil _ hne
    have:=c3 (.int .i64 z) (List.mem_map.2 ⟨z,hz,rfl⟩)
    exact this.symm
  have hn':l.n=zs.length:=by simpa using hn
  have h0:vals.getD 0 undef=.slice (some ⟨l.b,l.off,none⟩) zs.length l.cap:=by
    obtain ⟨b0,r0,_⟩:=hi.arg 0 _ rfl
    generalize vals.getD 0 undef=x at r0⊢
    cases r0 with
    | ref _ l2 _ hm hd=>
      rw [hl] at hm
      cases hm
      rw [←hn']
      cases hd with
      | real _=>rfl
      | nil a hr _=>rw [hreal] at hr;cases hr
  have hv:vals=#[.slice (some ⟨l.b,l.off,none⟩) zs.length l.cap]:=by
    have hs:vals.size=1:=hi.sz
    apply Array.ext
    · simpa using hs
    · intro i hi1 hi2
      have:i=0:=by simp at hi2;exact hi2
      subst this
      have e:vals.getD 0 undef=vals[0]:=by simp [Array.getD,hi1]
      rw [←e,h0];rfl
  subst hv
  have hlt:l.b < w.heap.size:=by
    rcases Nat.lt_or_ge l.b w.heap.size with q | q
    · exact q
    · rw [Array.getElem?_eq_none q] at c4;cases c4
  have hH:Sort.Holds (Value.int .i64) w l.b l.off zs.toArray:=by
    intro j hj
    have hj':j < zs.length:=by simpa using hj
    refine ⟨?_,by simp [World.frozen?,c4]⟩
    rw [cell_of_row w l.b _ c t _ c4,c8 j (.int .i64 zs[j]) (by simp [hj'])]
    congr 2
    simp [hj']
  refine (h l.b l.off l.cap w hH hlt).mono ?_
  rintro e w' ⟨rfl,n,os,rfl⟩
  let enc:Int→Value:=Value.int .i64
  let d:=(b4l zs).toArray
  have hother:∀b,b < w.heap.size→b≠l.b→(Sort.grow (Sort.putRow enc (Sort.ahead w n) l.b l.off d) os).heap[b]? =w.heap[b]? :=by
    intro b hb hne
    rw [Sort.heap_grow_old _ _ (by simpa using hb)]
    simp [Sort.putRow,Sort.mapBlock,Array.getElem?_modify,Ne.symm hne]
  have hself:(Sort.grow (Sort.putRow enc (Sort.ahead w n) l.b l.off d) os).heap[l.b]? =some (.cells (Sort.putCells enc l.off d c) t (0,0)):=by
    rw [Sort.heap_grow_old _ _ (by simpa using hlt)]
    simp [Sort.putRow,Sort.mapBlock,Array.getElem?_modify,c4,Sort.onCells]
  have hrow:b48 ⟨w,fun b=>ow b≠none,vis,μ,[]⟩ (Sort.grow (Sort.putRow enc (Sort.ahead w n) l.b l.off d) os) μ ow false 0 ((b4l zs).map (V.int .i64)) .flat:=by
    refine ⟨l,hl,by rw [List.length_map,c3k];exact hn',.inr ⟨hreal,hroot,[],⟨c1,c2,?_,Sort.putCells enc l.off d c,t,(b4l zs).map (Value.int .i64),hself,?_,d7b _,?_,?_⟩,rfl,fun _ e=>by
      have:=congrArg List.length e
      rw [List.length_map,c3k] at this
      exact hne (List.length_eq_zero_iff.1 this)⟩⟩
    · intro x hx
      obtain ⟨z,_,rfl⟩:=List.mem_map.1 hx
      rw [hsz];rfl
    · simpa [Sort.putCells] using c5
    · intro v hv
      obtain ⟨z,_,rfl⟩:=List.mem_map.1 hv
      rfl
    · intro j x hj
      have hjl:j < (b4l zs).length:=by
        rcases Nat.lt_or_ge j (b4l zs).length with q | q
        · exact q
        · rw [List.getElem?_eq_none (by simpa using q)] at hj;cases hj
      have hx:x=.int .i64 (b4l zs)[j]:=by simpa [hjl,eq_comm] using hj
      have hjz:j < zs.length:=by rw [←c3k];exact hjl
      have hc:=c8 j (.int .i64 zs[j]) (by simp [hjz])
      rw [Sort.putCells,Array.getElem?_mapIdx,hc,Option.map_some,if_pos ⟨by omega,by simpa [d] using hjl⟩,hx]
      have:l.off+j - l.off=j:=by omega
      rw [this]
      simp [enc,d,hjl]
  refine ⟨_,μ,ow,rfl,⟨⟨[],.tup [] [] [] .nil,by simp⟩,fun id bk e=> ?_,?_,MLe.refl _,Nat.le_refl _,fun id hid=>hi.dom id hid,fun b hb=> ?_,fun b hb=>.inl hb,⟨?_,fun b hb hno=> ?_,rfl,rfl,rfl,fun x hx=> ?_,fun _ hp=>nomatch hp⟩⟩⟩
  · cases id with
    | zero=>
      simp only [List.getElem?_cons_zero,Option.some.injEq] at e
      subst e
      exact hrow
    | succ id=>simp at e
  · intro bk hb
    rw [List.mem_singleton] at hb
    subst hb
    rfl
  · by_cases q:b=l.b
    · subst q;exact ⟨_,_,hself⟩
    · exact (hi.owl b hb).keep (hother b (hi.owl b hb).lt q)
  · show w.heap.size≤_
    simp
  · refine hother b hb fun q=>hno ?_
    show ow b≠none
    rw [q,hroot];simp
  · have hx':x.block < w.heap.size:=hx
    rw [Sort.frozen?_grow _ _ _ (by simpa using hx'),Sort.frozen?_putRow,Sort.frozen?_ahead]
end Go.Vm
namespace Go.Vm
open Go
theorem c4r (i:Nat):(b1v i≠.thin)=True:=by unfold b1v;split<;>simp
theorem d12 {m:Nat} {s:St}:b5i m s {s with vw:=true}:=fun cx a w μ ow hmu h=>
  ⟨μ,ow,⟨h.dfr,h.sz,fun t=>by
    obtain ⟨bl,r1,r2⟩:=h.env t
    exact ⟨bl,r1,fun b hb=>(r2 b hb).mono rfl (fun _=>rfl)⟩,fun id bk e=>(h.blk id bk e).keep (MLe.refl μ) (fun _=>rfl) (fun b _ _=>⟨rfl,rfl⟩),h.dom,h.owl,h.own,h.frm,h.mu⟩⟩
def c45 (t:Nat) (v:V) (l:List (Nat×V)):List (Nat×V):=l.map fun p=>if p.1=t then (p.1,v) else p
theorem c1u (t:Nat) (v:V):∀(l:List (Nat×V)) (k:Nat),(look t l≠.any∨k≠t)→look k (c45 t v l)=if k=t then v else look k l
  | [],k,h=>by
    rcases h with h | h
    · exact absurd rfl h
    · simp [c45,look,h]
  | (j, x)::l,k,h=>by
    show look k ((if j=t then (j,v) else (j,x))::c45 t v l)=_
    by_cases hj:j=t
    · subst hj
      rw [if_pos rfl,b0i,b0i]
      by_cases hk:k=j
      · rw [if_pos hk,if_pos hk]
      · rw [if_neg hk,if_neg hk,if_neg hk,c1u j v l k (.inr hk),if_neg hk]
    · rw [if_neg hj,b0i,b0i]
      by_cases hk:k=j
      · rw [if_pos hk,if_pos hk,if_neg (fun q=>hj (hk ▸ q))]
      · rw [if_neg hk,if_neg hk]
        refine c1u t v l k ?_
        rcases h with h | h
        · rw [b0i] at h
          by_cases ht:t=j
          · exact absurd ht.symm hj
          · rw [if_neg ht] at h;exact .inl h
        · exact .inr h
theorem b1r (t k:Nat) (v x:V) (l:List (Nat×V)):c45 t v ((k,x)::l)=(if k=t then (k,v) else (k,x))::c45 t v l:=rfl
theorem b1y (t:Nat) (v:V):c45 t v []=[]:=rfl
theorem b1t {s:St} {k:Nat} {xs ys:List V} {kd:Kd} (hO:s.O[k]? =some (.arr xs kd)) (hk:(kd != .shal && kd.nm)=true) (e:xs=ys):b9l 0 s (.ref k) (.ref 0) [.arr ys kd]:=by
  subst e
  have hf:(b9r (.ref k)).filter (fun id=>Nat.ble 0 id)=[k]:=by simp [b9r,d15,d1n]
  unfold b9l
  simp only [hf]
  simp only [Bool.and_eq_true] at hk
  refine ⟨⟨by simp [V.only,idx],by simp,Nat.zero_le _⟩,by simp [V.ren,c1g,idx],by simp [hO],?_,.inr ⟨by simp [V.clean,V.noSl],?_⟩⟩
  · intro bk hb
    rw [List.mem_singleton] at hb
    subst hb
    exact hk.2
  · intro bk hb
    rw [List.mem_singleton] at hb
    subst hb
    show (kd != .shal && kd.nm)=true
    rw [hk.1,hk.2];rfl
theorem c0e {s:St} {v r:V} {O':List Blk} (ids:List Nat) (h1:b9r v=ids) (h2:v.only (fun id=>(idx ids id).isSome)=true) (h3:ids.Nodup)
    (h4:v.ren (fun id=>(idx ids id).getD 0)=r) (h5:(ids.map fun id=>s.O.getD id .dead)=O') (h6:∀bk∈O',bk.kindIs (fun k=>k != .shal && k.nm)=true) (h7:v.clean=true):b9l 0 s v r O':=by
  subst h4 h5
  have hf:(b9r v).filter (fun id=>Nat.ble 0 id)=ids:=by rw [h1];exact List.filter_eq_self.2 fun _ _=>rfl
  have ho:c1g 0 ids=fun id=>(idx ids id).getD 0:=by
    funext id
    simp [c1g]
  unfold b9l
  simp only [hf,ho]
  refine ⟨⟨c0r (fun id h=>by simpa using h) h2,h3,Nat.zero_le _⟩,trivial,by simp,fun bk hb=> ?_,.inr ⟨h7,h6⟩⟩
  have:=h6 bk hb
  cases bk with
  | dead=>simp [Blk.kindIs] at this⊢
  | arr xs k=>cases k<;>simp_all [Blk.kindIs,Kd.nm]
  | box x k=>cases k<;>simp_all [Blk.kindIs,Kd.nm]
theorem Con.thin {P:Program} {f:FuncId} {args:List V} {r:V} {xs:List V} (h:Con P f args [] r [.arr xs .flat]):Con P f args [] r [.arr xs .thin]:=by
  refine ⟨h.1,fun w vals μ ow vis hi=>(h.2 w vals μ ow vis hi).mono ?_⟩
  rintro e w' ⟨v,μ',ow',he,hout⟩
  refine ⟨v,μ',ow',he,hout.rep,fun id bk hb=> ?_,?_,hout.same,hout.len,hout.dom,hout.owl,hout.own,hout.frm⟩
  · cases id with
    | zero=>
      simp only [List.getElem?_cons_zero,Option.some.injEq] at hb
      subst hb
      obtain ⟨l,q1,q2,q3⟩:=hout.blk 0 (.arr xs .flat) rfl
      refine ⟨l,q1,q2,?_⟩
      rcases q3 with q3 | ⟨q3,q4,bl,q5,q6,q7⟩
      · exact .inl q3
      · exact .inr ⟨q3,q4,bl,q5,q6,fun q=>absurd rfl q⟩
    | succ n=>simp at hb
  · intro bk hb
    rw [List.mem_singleton] at hb
    subst hb
    rfl
theorem c8i:b5z .thin false false=some .thin:=rfl
theorem b1c:Kd.thin.nm=true:=rfl
theorem b1e:Kd.shal.nm=true:=rfl
theorem f6a:(BinOp.eql == BinOp.neq)=false:=rfl
theorem f5j:(BinOp.neq == BinOp.neq)=true:=rfl
structure Caps (caps:List V):Prop where
  cc:∀s ls,b06 s ls caps=some caps
  ca:∀s,b1l s [] caps=some caps
  cn:∀p,V.onlyL p caps=true
  cr:∀ρ,V.renL ρ caps=caps
theorem Caps.nil:Caps []:=⟨fun _ _=>rfl,fun _=>rfl,fun _=>by simp [V.onlyL],fun _=>rfl⟩
theorem Caps.pv {caps:List V} (xs:List V) (h:Caps caps):Caps (.pv xs 0 0::caps):=
  ⟨fun s ls=>by simp [b06,b1g,h.cc],fun s=>by simp [b1l,b15,b1g,h.ca],fun p=>by simp [V.onlyL,V.only,h.cn],fun ρ=>by simp [V.renL,V.ren,h.cr]⟩
theorem b7f (id n:Nat):rho [id] n 0=id:=rfl
theorem d4q {m:Nat} {s:St} (b id:Nat) (xs:List V) (k:Kd) (hb:s.O[b]? =some (.box (.ref id) .mix)) (hO:s.O[id]? =some (.arr xs k)) (hk:k=.flat∨k=.deep∨k=.thin) (hne:b≠id) :
    b5i m s {s with O:=(s.O.set b (.box (.sl xs) .deep)).set id .dead}:=by
  intro cx a w μ ow hmu h
  have hlb:b < s.O.length:=by
    rcases Nat.lt_or_ge b s.O.length with q | q
    · exact q
    · rw [List.getElem?_eq_none q] at hb;cases hb
  have ht:b10 s (.ref id)=some (.sl xs,[id],false):=by
    simp only [b10,St.row,hO,Option.bind_some,Blk.row]
    rcases hk with e | e | e<;>subst e<;>rfl
  obtain ⟨l,q1,q2,q3⟩:=h.blk b _ hb
  rcases q3 with ⟨_,q3⟩ | ⟨q3,q4,bl,q5,q6,_⟩
  · cases q3
  obtain ⟨c0,c1,c2,c,tc,vs,c4,c5,c6,c7,c8⟩:=q5
  have c6':RepL w μ [V.ref id] vs bl:=c6
  cases c6' with
  | cons _ x bx _ vs' bl2 r1 r2=>
    cases r2
    obtain ⟨bl',t1,t2,t3,t4,_⟩:=b6m h.sup r1 (fun y hy=>q6 y (by simp [hy])) ht
    obtain ⟨nd,own⟩:=t4 rfl
    refine ⟨μ,b40 ow [id] b,h.mut (O':=(s.O.set b (.box (.sl xs) .deep)).set id .dead) (fun _=>False) (MLe.refl μ) (fun j hj=>h.dom j (by rwa [List.length_set,List.length_set] at hj)) (Nat.le_refl _) (fun _ _ _=>rfl) rfl rfl rfl (fun _ _=>rfl)
      (fun _ _ e=>b4s e) (fun b j e=>.inr (b4q e)) (fun j bk e=> ?_) (fun y hy=>h.owl y (b7e hy)) (fun y hy=>.inl (b7e hy))⟩
    by_cases hj:j=id
    · subst hj
      have hlid:j < (s.O.set b (.box (.sl xs) .deep)).length:=by
        rw [List.length_set]
        exact (List.getElem?_eq_some_iff.1 hO).1
      rw [List.getElem?_set_self hlid] at e
      simp only [Option.some.injEq] at e
      subst e
      exact .inr trivial
    · rw [List.getElem?_set_ne (fun q=>hj q.symm)] at e
      by_cases hjb:j=b
      · subst hjb
        rw [List.getElem?_set_self hlb] at e
        simp only [Option.some.injEq] at e
        subst e
        right
        refine ⟨l,q1,q2,.inr ⟨q3,(b3u q4 (by simpa using hj)).trans q4,bl',⟨c0,c1,?_,c,tc,[x],c4,c5,?_,?_,?_⟩,⟨nd,?_⟩,fun _=>by simp⟩⟩
        · intro y hy
          rw [List.mem_singleton] at hy
          subst hy
          exact c2 (.ref id) (by simp)
        · have:=RepL.cons (w:=w) (μ:=M0) _ x bl' [] [] [] t1 .nil
          rw [List.append_nil] at this
          exact this
        · intro v hv
          exact c7 v hv
        · intro i y hy
          exact c8 i y hy
        · intro y hy
          obtain ⟨i,hi,r,e⟩:=own y hy
          exact c78 e hi
      · left
        rw [List.getElem?_set_ne (fun q=>hjb q.symm)] at e
        exact ⟨e,fun q=>q,fun y r ey=>b3u ey (by simpa using hj)⟩
theorem c6o (m n:Nat):Nat.beq m n=decide (m=n):=by
  cases h:Nat.beq m n with
  | true=>rw [decide_eq_true (Nat.eq_of_beq_eq_true h)]
  | false=>rw [decide_eq_false fun e=>by rw [e,Nat.beq_refl] at h;cases h]
end Go.Vm
namespace Go.Vm
open Go
def b3e (bk bk':Blk) (xs xs':List V) (k k':Kd):Prop:=
  (bk=.arr xs k∧bk'=.arr xs' k')∨(∃x x',bk=.box x k∧bk'=.box x' k'∧xs=[x]∧xs'=[x'])
theorem b3e.ok {bk bk':Blk} {xs xs':List V} {k k':Kd} (h:b3e bk bk' xs xs' k k') {cx:Cx} {w:World} {μ:Nat→Option Loc} {ow:Ow} {vw:Bool} {id:Nat} (hb:b8u cx w μ ow vw id bk):b48 cx w μ ow vw id xs k:=by
  rcases h with ⟨rfl,_⟩ | ⟨x,x',rfl,_,rfl,_⟩<;>exact hb
theorem b3e.ok' {bk bk':Blk} {xs xs':List V} {k k':Kd} (h:b3e bk bk' xs xs' k k') {cx:Cx} {w:World} {μ:Nat→Option Loc} {ow:Ow} {vw:Bool} {id:Nat} (hb:b48 cx w μ ow vw id xs' k'):b8u cx w μ ow vw id bk':=by
  rcases h with ⟨_,rfl⟩ | ⟨x,x',_,rfl,_,rfl⟩<;>exact hb
theorem d6u {m:Nat} {s:St} (id:Nat) (bk bk':Blk) (xs xs' ys pre post:List V) (k kd:Kd) (hO:s.O[id]? =some bk) (hbk:b3e bk bk' xs xs' k .part) (hk:k=.deep∨k=.part)
    (hc:xs.flatMap V.cells=pre++.sl ys::post) (hc':xs'.flatMap V.cells=pre++.ref s.O.length::post) (hlen:xs'.length=xs.length)
    (hsz:∀n,(∀x∈xs,x.cells.length=n)→∀x∈xs',x.cells.length=n) (hy:ys≠[]) (hkd:kd=.deep∨(kd=.flat∧ys.all V.noSl=true)) (hv:s.vw=false) :
    b5i m s {s with O:=s.O.set id bk'++[.arr ys kd]}:=by
  intro cx a w μ ow hmu h
  have hid:id < s.O.length:=(List.getElem?_eq_some_iff.1 hO).1
  obtain ⟨l,hl1,hl2,hl3⟩:=hbk.ok (h.blk id _ hO)
  have hxne:xs≠[]:=by intro e;rw [e] at hc;simp at hc
  rcases hl3 with ⟨_,q2⟩ | ⟨q1,q2,bl,q3,q4,q5⟩
  · exact absurd q2 hxne
  have hown:bl.Nodup∧∀b∈bl,ow b=some (false,id):=by rcases hk with e | e<;>subst e<;>exact q4
  obtain ⟨c1,c2,c3,c,t,vs,c4,c5,c6,c7,c8⟩:=q3
  rw [hc] at c6
  obtain ⟨x1,x23,b1,b23,ev1,eb1,r1,r23⟩:=RepL.split pre (.sl ys::post) c6
  cases r23 with
  | cons _ x bx _ x3 b3 hx r3=>
    cases hx with
    | sl0=>exact absurd rfl hy
    | sl _ b off cc sz vs' bl2 h0 hcap hs hz hl' k1 hr=>
      have hbo:ow b=some (false,id):=hown.2 b (by rw [eb1];simp)
      obtain ⟨cs,tt,hh⟩:=h.owl b (by rw [hbo];simp)
      let loc:Loc:=⟨b,off,sz,ys.length,cc,true⟩
      have hcells:Cells w M0 loc ys bl2:=by
        refine ⟨hcap.1,hs,hz,cs,tt,vs',hh,?_,hl',k1,fun j y hj=> ?_⟩
        · obtain ⟨cs2,t2,fr2,e2,e3⟩:=hcap.2
          rw [hh] at e2;cases e2;exact e3
        · have:=hr j y hj
          rwa [cell_of_row w b _ cs tt _ hh] at this
      let N:=s.O.length
      let ow':Ow:=fun y=>if y=b then some (true,N) else if y∈bl2 then some (false,N) else ow y
      let μ':Nat→Option Loc:=fun j=>if j=N then some loc else μ j
      have hnd:=hown.1
      rw [eb1] at hnd
      obtain ⟨hn1,hn23,hn1x⟩:=List.nodup_append.1 hnd
      obtain ⟨hnb,hn3,hnbx⟩:=List.nodup_append.1 hn23
      obtain ⟨hnb2,hn2⟩:=List.nodup_cons.1 hnb
      have hm:MLe μ μ':=by
        intro j lc e
        have:j≠N:=fun q=>by rw [q,h.dom N (Nat.le_refl _)] at e;cases e
        simp only [μ',this,if_false];exact e
      have howB:∀y,y∈b::bl2→ow y=some (false,id):=fun y hy=>hown.2 y (by rw [eb1];exact List.mem_append_right _ (List.mem_append_left _ hy))
      have hsame:∀y,y ∉ b::bl2→ow' y=ow y:=by
        intro y hy
        simp only [List.mem_cons,not_or] at hy
        simp only [ow',hy.1,hy.2,if_false]
      have hsame':∀y,ow y≠some (false,id)→ow' y=ow y:=fun y hy=>hsame y fun q=>hy (howB y q)
      have hne:∀y,ow' y≠none→ow y≠none:=by
        intro y hy e
        apply hy
        rw [hsame' y (by rw [e];simp)];exact e
      have hvok:∀y,VOK cx ow s.vw y→VOK cx ow' s.vw y:=by
        intro y hb
        rw [hv] at hb⊢
        have h0:ow y=none:=hb.1.resolve_right (by simp)
        exact ⟨.inl (by rw [hsame' y (by rw [h0];simp)];exact h0),hb.2⟩
      have hbne:∀y∈b1++b3,y ∉ b::bl2:=by
        intro y hy hyb
        rcases List.mem_append.1 hy with q | q
        · exact hn1x y q y (List.mem_append_left _ hyb) rfl
        · exact hnbx y hyb y q rfl
      refine ⟨μ',ow',h.dfr,h.sz,fun t=> ?_,fun j bk2 e=> ?_,fun j hj=> ?_,fun y hy=>h.owl y (hne y hy),fun y hy=>h.own y (hne y hy),h.frm,h.mu.trans hm⟩
      · obtain ⟨bt,g1,g2⟩:=h.env t
        exact ⟨bt,g1.keep hm fun _ _=>rfl,fun y hy=>hvok y (g2 y hy)⟩
      · rcases Nat.lt_or_ge j N with hj | hj
        · rw [List.getElem?_append_left (by rw [List.length_set];exact hj)] at e
          by_cases hji:j=id
          · subst hji
            rw [List.getElem?_set_self hid] at e
            simp only [Option.some.injEq] at e
            subst e
            refine hbk.ok' ⟨l,hm _ _ hl1,by rw [hlen];exact hl2,.inr ⟨q1,?_,b1++b3,⟨by omega,c2,hsz _ c3,c,t,vs,c4,c5,?_,c7,c8⟩,⟨?_,?_⟩,fun _=> ?_⟩⟩
            · rw [hsame' l.b (by rw [q2];simp)];exact q2
            · rw [hc',ev1]
              have hkm:MLe (k.mu μ) μ':=(k.mu_le μ).trans hm
              have hN:μ' N=some loc:=by simp [μ']
              have rr:Rep w μ' (.ref N) (.slice (some ⟨b,off,none⟩) ys.length cc) []:=.ref N loc _ hN (Hd.real (l:=loc) rfl)
              exact (r1.keep hkm fun _ _=>rfl).append (RepL.cons _ _ _ _ _ _ rr (r3.keep hkm fun _ _=>rfl))
            · exact List.nodup_append.2 ⟨hn1,hn3,fun x hx y hy e=>hn1x x hx y (List.mem_append_right _ hy) e⟩
            · intro y hy
              rw [hsame y (hbne y hy)]
              refine hown.2 y ?_
              rw [eb1]
              rcases List.mem_append.1 hy with q | q
              · exact List.mem_append_left _ q
              · exact List.mem_append_right _ (List.mem_append_right _ q)
            · intro q
              rw [q] at hlen
              exact hxne (List.length_eq_zero_iff.1 hlen.symm)
          · rw [List.getElem?_set_ne (fun q=>hji q.symm)] at e
            refine (h.blk j bk2 e).keep hm (fun q=>q) fun y hyl hcc=>⟨rfl,hsame' y ?_⟩
            rcases hcc with q | q | q
            · rw [q];simp
            · rw [q];simp;exact hji
            · rw [hv] at q
              rw [q.1.resolve_right (by simp)];simp
        · rw [List.getElem?_append_right (by rw [List.length_set];exact hj),List.length_set] at e
          have hjN:j=N:=by
            rcases Nat.eq_zero_or_pos (j - N) with q | q
            · omega
            · rw [List.getElem?_eq_none (by simp only [List.length_singleton];exact q)] at e;cases e
          subst hjN
          rw [Nat.sub_self,List.getElem?_cons_zero,Option.some.injEq] at e
          subst e
          have hmu0:kd.mu μ'=M0:=by rcases hkd with q | ⟨q,_⟩<;>subst q<;>rfl
          refine ⟨loc,by simp [μ',N],rfl,.inr ⟨rfl,by simp [ow',loc,N],bl2,by rw [hmu0];exact hcells,?_,fun _=>hy⟩⟩
          rcases hkd with q | ⟨q,hns⟩
          · subst q
            refine ⟨hn2,fun y hy2=> ?_⟩
            have hyb:y≠b:=fun q=>hnb2 (q ▸ hy2)
            simp only [ow',hyb,if_false,hy2,if_true]
          · subst q
            exact b5k hl' hns
      · have hj':N+1≤j:=by simpa [N] using hj
        have h1:j≠N:=by omega
        simp only [μ',h1,if_false]
        exact h.dom j (by show s.O.length≤j;omega)
theorem d3k {m:Nat} {s:St} (id:Nat) (bk bk':Blk) (xs xs' pre post:List V) (k:Kd) (hO:s.O[id]? =some bk) (hbk:b3e bk bk' xs xs' k .part) (hk:k=.deep∨k=.part)
    (hc:xs.flatMap V.cells=pre++.nsl::post) (hc':xs'.flatMap V.cells=pre++.ref s.O.length::post) (hlen:xs'.length=xs.length)
    (hsz:∀n,(∀x∈xs,x.cells.length=n)→∀x∈xs',x.cells.length=n) :
    b5i m s {s with O:=s.O.set id bk'++[.arr [] .flat]}:=by
  intro cx a w μ ow hmu h
  have hid:id < s.O.length:=(List.getElem?_eq_some_iff.1 hO).1
  obtain ⟨l,hl1,hl2,hl3⟩:=hbk.ok (h.blk id _ hO)
  have hxne:xs≠[]:=by intro e;rw [e] at hc;simp at hc
  rcases hl3 with ⟨_,q2⟩ | ⟨q1,q2,bl,q3,q4,q5⟩
  · exact absurd q2 hxne
  have hown:bl.Nodup∧∀b∈bl,ow b=some (false,id):=by rcases hk with e | e<;>subst e<;>exact q4
  obtain ⟨c1,c2,c3,c,t,vs,c4,c5,c6,c7,c8⟩:=q3
  rw [hc] at c6
  obtain ⟨x1,x23,b1,b23,ev1,eb1,r1,r23⟩:=RepL.split pre (.nsl::post) c6
  cases r23 with
  | cons _ x bx _ x3 b3 hx r3=>
    cases hx with
    | nsl ad =>
      let N:=s.O.length
      let μ':Nat→Option Loc:=fun j=>if j=N then some b5e else μ j
      have hm:MLe μ μ':=by
        intro j lc e
        have:j≠N:=fun q=>by rw [q,h.dom N (Nat.le_refl _)] at e;cases e
        simp only [μ',this,if_false];exact e
      have hN:μ' N=some b5e:=by simp [μ']
      refine ⟨μ',ow,h.dfr,h.sz,fun t=> ?_,fun j bk2 e=> ?_,fun j hj=> ?_,h.owl,h.own,h.frm,h.mu.trans hm⟩
      · obtain ⟨bt,g1,g2⟩:=h.env t
        exact ⟨bt,g1.keep hm fun _ _=>rfl,g2⟩
      · rcases Nat.lt_or_ge j N with hj | hj
        · rw [List.getElem?_append_left (by rw [List.length_set];exact hj)] at e
          by_cases hji:j=id
          · subst hji
            rw [List.getElem?_set_self hid] at e
            simp only [Option.some.injEq] at e
            subst e
            refine hbk.ok' ⟨l,hm _ _ hl1,by rw [hlen];exact hl2,.inr ⟨q1,q2,bl,⟨by omega,c2,hsz _ c3,c,t,vs,c4,c5,?_,c7,c8⟩,hown,fun _=> ?_⟩⟩
            · rw [hc',ev1,eb1]
              have hkm:MLe (k.mu μ) μ':=(k.mu_le μ).trans hm
              have rr:Rep w μ' (.ref N) (.slice ad 0 0) []:=.ref N b5e _ hN (.nil ad rfl rfl)
              exact (r1.keep hkm fun _ _=>rfl).append (RepL.cons _ _ _ _ _ _ rr (r3.keep hkm fun _ _=>rfl))
            · intro q
              rw [q] at hlen
              exact hxne (List.length_eq_zero_iff.1 hlen.symm)
          · rw [List.getElem?_set_ne (fun q=>hji q.symm)] at e
            exact (h.blk j bk2 e).keep hm (fun q=>q) fun y hyl hcc=>⟨rfl,rfl⟩
        · rw [List.getElem?_append_right (by rw [List.length_set];exact hj),List.length_set] at e
          have hjN:j=N:=by
            rcases Nat.eq_zero_or_pos (j - N) with q | q
            · omega
            · rw [List.getElem?_eq_none (by simp only [List.length_singleton];exact q)] at e;cases e
          subst hjN
          rw [Nat.sub_self,List.getElem?_cons_zero,Option.some.injEq] at e
          subst e
          exact ⟨b5e,hN,rfl,.inl ⟨rfl,rfl⟩⟩
      · have hj':N+1≤j:=by simpa [N] using hj
        have h1:j≠N:=by omega
        simp only [μ',h1,if_false]
        exact h.dom j (by show s.O.length≤j;omega)
theorem VOK.move {cx:Cx} {ow:Ow} {vw:Bool} {ids:List Nat} {id b:Nat} (h:VOK cx ow vw b):VOK cx (b40 ow ids id) vw b:=
  ⟨h.1.imp b4s fun ⟨q,_,e⟩=>⟨q,b4q e⟩,h.2⟩
def d2p (s s':St):Prop:=∀(cx:Cx) (a:Act) (w:World) (μ:Nat→Option Loc) (ow:Ow),Rel cx s a w μ ow→∃ow',Rel cx s' a w μ ow'∧∀b,VOK cx ow s.vw b→VOK cx ow' s.vw b
theorem d2p.weak {m:Nat} {s s':St} (h:d2p s s'):b5i m s s':=fun cx a w μ ow _ hr=>let ⟨ow',q,_⟩:=h cx a w μ ow hr;⟨μ,ow',q⟩
theorem c2x {vw:Bool} {O O1:List Blk} (hl:O1.length=O.length) (h:∀env n mask,d2p ⟨env,O,vw,n,mask⟩ ⟨env,O1,vw,n,mask⟩):c3r vw O O1:=⟨hl,fun cx env n mask a w μ ow hr=>h env n mask cx a w μ ow hr⟩
theorem f26 {s:St} (id j:Nat) (bk bk':Blk) (xs xs' ys pre post:List V) (kd:Kd) (hO:s.O[id]? =some bk) (hj:s.O[j]? =some (.arr ys kd)) (hne:id≠j) (hbk:b3e bk bk' xs xs' .part .part) (hkd:kd=.flat∨kd=.deep∨kd=.thin)
    (hc:xs.flatMap V.cells=pre++.ref j::post) (hc':xs'.flatMap V.cells=pre++.sl ys::post) (hlen:xs'.length=xs.length)
    (hsz:∀n,(∀x∈xs,x.cells.length=n)→∀x∈xs',x.cells.length=n) :
    d2p s {s with O:=(s.O.set id bk').set j .dead}:=by
  intro cx a w μ ow h
  have hid:id < s.O.length:=(List.getElem?_eq_some_iff.1 hO).1
  have hjl:j < s.O.length:=(List.getElem?_eq_some_iff.1 hj).1
  have ht:b10 s (.ref j)=some (.sl ys,[j],false):=by
    simp only [b10,St.row,hj,Option.bind_some,Blk.row]
    rcases hkd with e | e | e<;>subst e<;>rfl
  obtain ⟨l,hl1,hl2,hl3⟩:=hbk.ok (h.blk id _ hO)
  have hxne:xs≠[]:=by intro e;rw [e] at hc;simp at hc
  rcases hl3 with ⟨_,q2⟩ | ⟨q1,q2,bl,q3,q4,q5⟩
  · exact absurd q2 hxne
  obtain ⟨c1,c2,c3,c,t,vs,c4,c5,c6,c7,c8⟩:=q3
  rw [hc] at c6
  obtain ⟨x1,x23,b1,b23,ev1,eb1,r1,r23⟩:=RepL.split pre (.ref j::post) c6
  cases r23 with
  | cons _ x bx _ x3 b3 hx r3=>
    have hx':Rep w μ (.ref j) x bx:=hx
    have hbx:bx=[]:=by cases hx';rfl
    subst hbx
    obtain ⟨bl',t1,t2,t3,t4,_⟩:=b6m h.sup hx' (by simp) ht
    obtain ⟨nd,own⟩:=t4 rfl
    have e0:bl=b1++[]++b3:=by rw [eb1,List.append_assoc]
    have hk0:c1v cx ow s.vw id (b1++[]++b3) .part:=by rw [←e0];exact q4
    have hkd2:=d7g (cx:=cx) (ow:=ow) (k:=.part) (k':=.part) (id:=id) (ids:=[j]) (vi:=false) (vw:=s.vw) (b1:=b1) (b2:=[]) (b3:=b3) (bl':=bl') (.inr ⟨rfl,rfl,rfl⟩) hk0 (by simpa using hne) (by simp) (by simp) (fun _=>⟨nd,own⟩)
    refine ⟨b40 ow [j] id,h.mut (O':=(s.O.set id bk').set j .dead) (fun _=>False) (MLe.refl μ) (fun i hi=>h.dom i (by rwa [List.length_set,List.length_set] at hi)) (Nat.le_refl _) (fun _ _ _=>rfl) rfl rfl rfl (fun _ _=>rfl)
      (fun _ _ e=>b4s e) (fun b i e=>.inr (b4q e)) (fun i bk2 e=> ?_) (fun y hy=>h.owl y (b7e hy)) (fun y hy=>.inl (b7e hy)),fun _ q=>q.move⟩
    by_cases hij:i=j
    · subst hij
      rw [List.getElem?_set_self (by rw [List.length_set];exact hjl)] at e
      simp only [Option.some.injEq] at e
      subst e
      exact .inr trivial
    · rw [List.getElem?_set_ne (fun q=>hij q.symm)] at e
      by_cases hii:i=id
      · subst hii
        rw [List.getElem?_set_self hid] at e
        simp only [Option.some.injEq] at e
        subst e
        right
        refine hbk.ok' ⟨l,hl1,by rw [hlen];exact hl2,.inr ⟨q1,(b3u q2 (by simpa using hne)).trans q2,b1++bl'++b3,⟨by omega,c2,hsz _ c3,c,t,vs,c4,c5,?_,c7,c8⟩,hkd2,fun _ q=> ?_⟩⟩
        · rw [hc',ev1,List.append_assoc]
          exact r1.append (RepL.cons _ _ _ _ _ _ (t1.keep (MLe.zero _) fun _ _=>rfl) r3)
        · rw [q] at hlen
          exact hxne (List.length_eq_zero_iff.1 hlen.symm)
      · left
        rw [List.getElem?_set_ne (fun q=>hii q.symm)] at e
        exact ⟨e,fun q=>q,fun y r ey=>b3u ey (by simpa using hij)⟩
theorem d3q {s:St} (id j:Nat) (bk bk':Blk) (xs xs' pre post:List V) (kd:Kd) (hO:s.O[id]? =some bk) (hj:s.O[j]? =some (.arr [] kd)) (hne:id≠j) (hbk:b3e bk bk' xs xs' .part .part) (hkd:kd≠.thin)
    (hc:xs.flatMap V.cells=pre++.ref j::post) (hc':xs'.flatMap V.cells=pre++.nsl::post) (hlen:xs'.length=xs.length)
    (hsz:∀n,(∀x∈xs,x.cells.length=n)→∀x∈xs',x.cells.length=n) :
    d2p s {s with O:=(s.O.set id bk').set j .dead}:=by
  intro cx a w μ ow h
  have hid:id < s.O.length:=(List.getElem?_eq_some_iff.1 hO).1
  have hjl:j < s.O.length:=(List.getElem?_eq_some_iff.1 hj).1
  obtain ⟨l,hl1,hl2,hl3⟩:=hbk.ok (h.blk id _ hO)
  obtain ⟨lj,k1,k2,k3⟩:=h.blk j _ hj
  have hxne:xs≠[]:=by intro e;rw [e] at hc;simp at hc
  rcases hl3 with ⟨_,q2⟩ | ⟨q1,q2,bl,q3,q4,q5⟩
  · exact absurd q2 hxne
  have hreal:lj.real=false:=by
    rcases k3 with ⟨q,_⟩ | ⟨_,_,_,_,_,q⟩
    · exact q
    · exact absurd rfl (q hkd)
  obtain ⟨c1,c2,c3,c,t,vs,c4,c5,c6,c7,c8⟩:=q3
  rw [hc] at c6
  obtain ⟨x1,x23,b1,b23,ev1,eb1,r1,r23⟩:=RepL.split pre (.ref j::post) c6
  cases r23 with
  | cons _ x bx _ x3 b3 hx r3=>
    have hx':Rep w μ (.ref j) x bx:=hx
    obtain ⟨ad,rfl,rfl⟩:∃ad,x=.slice ad 0 0∧bx=[]:=by
      cases hx' with
      | ref _ l2 _ hl hd=>
        rw [k1] at hl
        cases hl
        cases hd with
        | real q=>rw [hreal] at q;cases q
        | nil ad _ _=>exact ⟨ad,rfl,rfl⟩
    refine ⟨ow,⟨h.dfr,h.sz,h.env,fun i bk2 e=> ?_,fun i hi=>h.dom i (by rwa [List.length_set,List.length_set] at hi),h.owl,h.own,h.frm,h.mu⟩,fun _ q=>q⟩
    by_cases hij:i=j
    · subst hij
      rw [List.getElem?_set_self (by rw [List.length_set];exact hjl)] at e
      simp only [Option.some.injEq] at e
      subst e
      trivial
    · rw [List.getElem?_set_ne (fun q=>hij q.symm)] at e
      by_cases hii:i=id
      · subst hii
        rw [List.getElem?_set_self hid] at e
        simp only [Option.some.injEq] at e
        subst e
        refine hbk.ok' ⟨l,hl1,by rw [hlen];exact hl2,.inr ⟨q1,q2,bl,⟨by omega,c2,hsz _ c3,c,t,vs,c4,c5,?_,c7,c8⟩,q4,fun _ q=> ?_⟩⟩
        · rw [hc',ev1,eb1]
          exact r1.append (RepL.cons _ _ _ _ _ _ (.nsl ad) r3)
        · rw [q] at hlen
          exact hxne (List.length_eq_zero_iff.1 hlen.symm)
      · rw [List.getElem?_set_ne (fun q=>hii q.symm)] at e
        exact h.blk i bk2 e
theorem f4v {m:Nat} {s:St} (id j:Nat) (bk bk':Blk) (xs xs' pre post:List V) (kd:Kd) (hO:s.O[id]? =some bk) (hj:s.O[j]? =some (.arr [] kd)) (hne:id≠j) (hbk:b3e bk bk' xs xs' .part .part) (hkd:kd≠.thin)
    (hc:xs.flatMap V.cells=pre++.ref j::post) (hc':xs'.flatMap V.cells=pre++.nsl::post) (hlen:xs'.length=xs.length)
    (hsz:∀n,(∀x∈xs,x.cells.length=n)→∀x∈xs',x.cells.length=n) :
    b5i m s {s with O:=(s.O.set id bk').set j .dead}:=
  (d3q id j bk bk' xs xs' pre post kd hO hj hne hbk hkd hc hc' hlen hsz).weak
theorem c4f {s:St} (id:Nat) (bk bk':Blk) (xs:List V) (k k':Kd) (hO:s.O[id]? =some bk) (hbk:b3e bk bk' xs xs k k')
    (hk:∀(cx:Cx) (w:World) (μ:Nat→Option Loc) (ow:Ow) (bl:List Nat) (vs:List Value),RepL w (k.mu μ) (xs.flatMap V.cells) vs bl→c1v cx ow s.vw id bl k→RepL w (k'.mu μ) (xs.flatMap V.cells) vs bl∧c1v cx ow s.vw id bl k') (ht:k≠.thin∨k'=.thin) :
    d2p s {s with O:=s.O.set id bk'}:=by
  intro cx a w μ ow h
  have hid:id < s.O.length:=(List.getElem?_eq_some_iff.1 hO).1
  obtain ⟨l,hl1,hl2,hl3⟩:=hbk.ok (h.blk id _ hO)
  refine ⟨ow,⟨h.dfr,h.sz,h.env,fun i bk2 e=> ?_,fun i hi=>h.dom i (by rwa [List.length_set] at hi),h.owl,h.own,h.frm,h.mu⟩,fun _ q=>q⟩
  by_cases hii:i=id
  · subst hii
    rw [List.getElem?_set_self hid] at e
    simp only [Option.some.injEq] at e
    subst e
    refine hbk.ok' ⟨l,hl1,hl2,?_⟩
    rcases hl3 with q | ⟨q1,q2,bl,⟨c1,c2,c3,c,t,vs,c4,c5,c6,c7,c8⟩,q4,q5⟩
    · exact .inl q
    · obtain ⟨g1,g2⟩:=hk cx w μ ow bl vs c6 q4
      exact .inr ⟨q1,q2,bl,⟨c1,c2,c3,c,t,vs,c4,c5,g1,c7,c8⟩,g2,fun hne=>q5 (by rcases ht with q | q;exact q;exact absurd q hne)⟩
  · rw [List.getElem?_set_ne (fun q=>hii q.symm)] at e
    exact h.blk i bk2 e
theorem c0c {m:Nat} {s:St} (id:Nat) (bk bk':Blk) (xs:List V) (k k':Kd) (hO:s.O[id]? =some bk) (hbk:b3e bk bk' xs xs k k')
    (hk:∀(cx:Cx) (w:World) (μ:Nat→Option Loc) (ow:Ow) (bl:List Nat) (vs:List Value),RepL w (k.mu μ) (xs.flatMap V.cells) vs bl→c1v cx ow s.vw id bl k→RepL w (k'.mu μ) (xs.flatMap V.cells) vs bl∧c1v cx ow s.vw id bl k') (ht:k≠.thin∨k'=.thin) :
    b5i m s {s with O:=s.O.set id bk'}:=
  (c4f id bk bk' xs k k' hO hbk hk ht).weak
theorem f6h {m:Nat} {s:St} (id:Nat) (bk bk':Blk) (xs:List V) (hO:s.O[id]? =some bk) (hbk:b3e bk bk' xs xs .part .deep) (hn:xs.all V.noRef=true):b5i m s {s with O:=s.O.set id bk'}:=
  c0c id bk bk' xs .part .deep hO hbk (fun cx w μ ow bl vs h1 h2=>⟨b43 h1 hn,h2⟩) (.inl (by simp))
theorem f50 {m:Nat} {s:St} (id:Nat) (bk bk':Blk) (xs:List V) (hO:s.O[id]? =some bk) (hbk:b3e bk bk' xs xs .mix .part) (hn:xs.all V.noSl=true):b5i m s {s with O:=s.O.set id bk'}:=
  c0c id bk bk' xs .mix .part hO hbk (fun cx w μ ow bl vs h1 h2=>⟨h1,by
    have:bl=[]:=b5k h1 hn
    subst this;exact ⟨by simp,by simp⟩⟩) (.inl (by simp))
theorem f5l {m:Nat} {s:St} (id:Nat) (bk bk':Blk) (xs:List V) (hO:s.O[id]? =some bk) (hbk:b3e bk bk' xs xs .part .mix) (hn:xs.all V.noSl=true):b5i m s {s with O:=s.O.set id bk'}:=
  c0c id bk bk' xs .part .mix hO hbk (fun cx w μ ow bl vs h1 h2=>⟨h1,by
    have:bl=[]:=b5k h1 hn
    subst this;exact fun b hb=>nomatch hb⟩) (.inl (by simp))
theorem f5q {m:Nat} {s:St} (id:Nat) (xs:List V) (hO:s.O[id]? =some (.arr xs .flat)):b5i m s {s with O:=s.O.set id (.arr xs .deep)}:=
  c0c id _ _ xs .flat .deep hO (.inl ⟨rfl,rfl⟩) (fun cx w μ ow bl vs h1 h2=>⟨h1,by
    have:bl=[]:=h2
    subst this;exact ⟨by simp,by simp⟩⟩) (.inl (by simp))
theorem d0n {m:Nat} {s:St} (id n:Nat) (xs:List V) (hO:s.O[id]? =some (.arr xs (b1v n))):b5i m s {s with O:=s.O.set id (.arr xs .deep)}:=by
  rcases b9n n with e | e
  · rw [e] at hO;exact f5q id xs hO
  · rw [e] at hO;rw [St.O_same hO];exact b2s _ _
def Wk (c c':V):Prop:=c'=c∨(c=.nsl∧c'=.sl [])∨c'=.any
def WkL:List V→List V→Prop
  | [],[]=>True
  | c::cs,c'::cs'=>Wk c c'∧WkL cs cs'
  | _,_=>False
theorem WkL.refl:∀l:List V,WkL l l
  | []=>trivial
  | _::l=>⟨.inl rfl,WkL.refl l⟩
theorem WkL.append:∀{a a' b b':List V},WkL a a'→WkL b b'→WkL (a++b) (a'++b')
  | [],[],_,_,_,h=>h
  | _::_,_::_,_,_,h,k=>⟨h.1,WkL.append h.2 k⟩
  | [],_::_,_,_,h,_=>nomatch h
  | _::_,[],_,_,h,_=>nomatch h
theorem RepL.wk {w:World} {ν:Nat→Option Loc}:∀{cs cs':List V} {vs:List Value} {bl:List Nat},WkL cs cs'→RepL w ν cs vs bl→∃bl',RepL w ν cs' vs bl'∧List.Sublist bl' bl
  | [],[],_,_,_,h=>⟨_,h,List.Sublist.refl _⟩
  | [],_::_,_,_,h,_=>nomatch h
  | _::_,[],_,_,h,_=>nomatch h
  | c ::cs,c'::cs',_,_,⟨h1,h2⟩,.cons _ x bx _ xs bl' hx ht=>by
    obtain ⟨b2,g1,g2⟩:=RepL.wk h2 ht
    rcases h1 with e | ⟨e1,e2⟩ | e
    · subst e;exact ⟨bx++b2,.cons _ _ _ _ _ _ hx g1,(List.Sublist.refl _).append g2⟩
    · subst e1;subst e2
      cases hx with
      | nsl ad=>exact ⟨[]++b2,.cons _ _ _ _ _ _ (.sl0 ad 0) g1,by simpa using g2⟩
    · subst e
      exact ⟨[]++b2,.cons _ _ _ _ _ _ (.any x) g1,(List.nil_sublist bx).append g2⟩
theorem d5o {s:St} (id:Nat) (bk bk':Blk) (xs xs':List V) (k:Kd) (hO:s.O[id]? =some bk) (hbk:b3e bk bk' xs xs' k k) (hw:WkL (xs.flatMap V.cells) (xs'.flatMap V.cells)) (hlen:xs'.length=xs.length)
    (hsz:∀n,(∀x∈xs,x.cells.length=n)→∀x∈xs',x.cells.length=n):d2p s {s with O:=s.O.set id bk'}:=by
  intro cx a w μ ow h
  have hid:id < s.O.length:=(List.getElem?_eq_some_iff.1 hO).1
  obtain ⟨l,hl1,hl2,hl3⟩:=hbk.ok (h.blk id _ hO)
  refine ⟨ow,⟨h.dfr,h.sz,h.env,fun i bk2 e=> ?_,fun i hi=>h.dom i (by rwa [List.length_set] at hi),h.owl,h.own,h.frm,h.mu⟩,fun _ q=>q⟩
  by_cases hii:i=id
  · subst hii
    rw [List.getElem?_set_self hid] at e
    simp only [Option.some.injEq] at e
    subst e
    refine hbk.ok' ⟨l,hl1,by rw [hlen];exact hl2,?_⟩
    rcases hl3 with ⟨q1,q2⟩ | ⟨q1,q2,bl,⟨c1,c2,c3,c,t,vs,c4,c5,c6,c7,c8⟩,q4,q5⟩
    · exact .inl ⟨q1,by rw [q2] at hlen;exact List.length_eq_zero_iff.1 hlen⟩
    · obtain ⟨bl',g1,g2⟩:=RepL.wk hw c6
      exact .inr ⟨q1,q2,bl',⟨c1,c2,hsz _ c3,c,t,vs,c4,c5,g1,c7,c8⟩,q4.sub g2,fun hne e=>q5 hne (by rw [e] at hlen;exact List.length_eq_zero_iff.1 hlen.symm)⟩
  · rw [List.getElem?_set_ne (fun q=>hii q.symm)] at e
    exact h.blk i bk2 e
theorem d0b {m:Nat} {s:St} (id:Nat) (bk bk':Blk) (xs xs':List V) (k:Kd) (hO:s.O[id]? =some bk) (hbk:b3e bk bk' xs xs' k k) (hw:WkL (xs.flatMap V.cells) (xs'.flatMap V.cells)) (hlen:xs'.length=xs.length)
    (hsz:∀n,(∀x∈xs,x.cells.length=n)→∀x∈xs',x.cells.length=n):b5i m s {s with O:=s.O.set id bk'}:=
  (d5o id bk bk' xs xs' k hO hbk hw hlen hsz).weak
theorem f45 {P:Program} {f:FuncId} {fn:Func} {c:Code} {args:List V} {O:List Blk} {r:V} {O':List Blk} (rs:List ResultVar) (L:b5h) (hf:P.funcs[f]? =some fn) (hname:(fn.name == "runtime.NumGoroutine")=false)
    (hb:fn.body=some c) (hts:fn.results=rs.toArray) (hn:args.length≤fn.ntmps) (s1:St) (hweak:b5i O.length ⟨b0l 0 args,O,false,fn.ntmps,0⟩ s1)
    (h:∀Q:AEx→St→Prop,(∀s s2,b5i O.length s s2→(d5g P s2 rs fun vs vw=>b9l O.length {s2 with vw:=vw} (b93 vs) r O')→Q .normal s)→(∀s s2,b5i O.length s s2→(d5g P s2 rs fun vs vw=>b9l O.length {s2 with vw:=vw} (b93 vs) r O')→Q .ret s)→
      awp P L O.length c Q s1):Con P f args O r O':=
  d94.con (c7g (R:=isR r O') rs L 0 hf hname hb hts hn hweak (h (fun e s=>match e with | .exit _=>False | _=>∃s2,b5i O.length s s2∧d5g P s2 rs fun vs vw=>∃r' O'',isR r O' r' O''∧b9l O.length {s2 with vw:=vw} (b93 vs) r' O'')
    (fun s s2 hw q=>⟨s2,hw,b8n (fun _ _ z=>⟨r,O',⟨rfl,rfl⟩,z⟩) q⟩) (fun s s2 hw q=>⟨s2,hw,b8n (fun _ _ z=>⟨r,O',⟨rfl,rfl⟩,z⟩) q⟩)))
theorem c4k {xs:List V} {i:Nat} {x:V} (h:xs[i]? =some x):xs.flatMap V.cells=(xs.take i).flatMap V.cells++(x.cells++(xs.drop (i+1)).flatMap V.cells):=by
  have hl:=(List.getElem?_eq_some_iff.1 h).1
  conv=>lhs;rw [←List.take_append_drop i xs,List.drop_eq_getElem_cons hl]
  rw [List.flatMap_append,List.flatMap_cons,(List.getElem?_eq_some_iff.1 h).2]
theorem c2w {xs:List V} {i:Nat} {x y:V} (h:xs[i]? =some x):(xs.set i y).flatMap V.cells=(xs.take i).flatMap V.cells++(y.cells++(xs.drop (i+1)).flatMap V.cells):=by
  have hl:=(List.getElem?_eq_some_iff.1 h).1
  have h2:(xs.set i y)[i]? =some y:=List.getElem?_set_self hl
  rw [c4k h2,List.take_set,List.set_eq_of_length_le (by rw [List.length_take];omega),List.drop_set,if_pos (by omega)]
theorem d2z {xs:List V} {i:Nat} {x y:V} (h:xs[i]? =some x) (hc:y.cells.length=x.cells.length):∀n,(∀z∈xs,z.cells.length=n)→∀z∈xs.set i y,z.cells.length=n:=by
  intro n hn z hz
  rcases List.mem_or_eq_of_mem_set hz with q | q
  · exact hn z q
  · subst q;rw [hc];exact hn x (List.mem_of_getElem? h)
theorem f1o {m:Nat} {s:St} (id i:Nat) (xs pre ys:List V) (k kd:Kd) (hO:s.O[id]? =some (.arr xs k)) (hk:k=.deep∨k=.part) (hi:xs[i]? =some (.agg (pre++[.sl ys]))) (hy:ys≠[]) (hkd:kd=.deep∨(kd=.flat∧ys.all V.noSl=true)) (hv:s.vw=false) :
    b5i m s {s with O:=s.O.set id (.arr (xs.set i (.agg (pre++[.ref s.O.length]))) .part)++[.arr ys kd]}:=
  d6u id _ _ xs (xs.set i (.agg (pre++[.ref s.O.length]))) ys ((xs.take i).flatMap V.cells++pre) ((xs.drop (i+1)).flatMap V.cells) k kd hO (.inl ⟨rfl,rfl⟩) hk
    (by rw [c4k hi];simp [V.cells]) (by rw [c2w hi];simp [V.cells]) List.length_set (d2z hi (by simp [V.cells])) hy hkd hv
theorem d9p {m:Nat} {s:St} (id i:Nat) (xs pre:List V) (k:Kd) (hO:s.O[id]? =some (.arr xs k)) (hk:k=.deep∨k=.part) (hi:xs[i]? =some (.agg (pre++[.nsl]))) :
    b5i m s {s with O:=s.O.set id (.arr (xs.set i (.agg (pre++[.ref s.O.length]))) .part)++[.arr [] .flat]}:=
  d3k id _ _ xs (xs.set i (.agg (pre++[.ref s.O.length]))) ((xs.take i).flatMap V.cells++pre) ((xs.drop (i+1)).flatMap V.cells) k hO (.inl ⟨rfl,rfl⟩) hk
    (by rw [c4k hi];simp [V.cells]) (by rw [c2w hi];simp [V.cells]) List.length_set (d2z hi (by simp [V.cells]))
end Go.Vm
namespace Go.Vm
open Go
end Go.Vm
namespace Go.Vm
open Go
def slN:List V→V
  | []=>.nsl
  | x::l=>.sl (x::l)
theorem d2e {pre post:List V} {u v:V}:∀n,(∀x∈[V.agg (pre++u::post)],x.cells.length=n)→∀x∈[V.agg (pre++v::post)],x.cells.length=n:=by
  intro n hn x hx
  have h:=hn _ (List.mem_singleton.2 rfl)
  rw [List.mem_singleton.1 hx]
  simpa [V.cells] using h
theorem c7i {s:St} (id j:Nat) (pre post ys:List V) (kd:Kd) (hO:s.O[id]? =some (.box (.agg (pre++.ref j::post)) .part)) (hj:s.O[j]? =some (.arr ys kd)) (hne:id≠j) (hkd:kd=.flat∨kd=.deep) :
    d2p s {s with O:=(s.O.set id (.box (.agg (pre++slN ys::post)) .part)).set j .dead}:=by
  cases ys with
  | nil=>exact d3q id j _ _ [.agg (pre++.ref j::post)] [.agg (pre++.nsl::post)] pre post kd hO hj hne (.inr ⟨_,_,rfl,rfl,rfl,rfl⟩) (by rcases hkd with e | e<;>subst e<;>simp) (by simp [V.cells]) (by simp [V.cells]) rfl d2e
  | cons y l=>exact f26 id j _ _ [.agg (pre++.ref j::post)] [.agg (pre++.sl (y::l)::post)] (y::l) pre post kd hO hj hne (.inr ⟨_,_,rfl,rfl,rfl,rfl⟩) (hkd.imp (fun q=>q) .inl) (by simp [V.cells]) (by simp [V.cells]) rfl d2e
theorem c8m {m:Nat} {s:St} (id:Nat) (pre post ys:List V) (k kd:Kd) (hO:s.O[id]? =some (.box (.agg (pre++slN ys::post)) k)) (hk:k=.deep∨k=.part) (h0:ys=[]→kd=.flat) (h1:ys≠[]→kd=.deep∨(kd=.flat∧ys.all V.noSl=true)) (hv:s.vw=false) :
    b5i m s {s with O:=s.O.set id (.box (.agg (pre++.ref s.O.length::post)) .part)++[.arr ys kd]}:=by
  cases ys with
  | nil=>
    rw [h0 rfl]
    exact d3k id _ _ [.agg (pre++.nsl::post)] [.agg (pre++.ref s.O.length::post)] pre post k hO (.inr ⟨_,_,rfl,rfl,rfl,rfl⟩) hk (by simp [V.cells]) (by simp [V.cells]) rfl d2e
  | cons y l=>exact d6u id _ _ [.agg (pre++.sl (y::l)::post)] [.agg (pre++.ref s.O.length::post)] (y::l) pre post k kd hO (.inr ⟨_,_,rfl,rfl,rfl,rfl⟩) hk (by simp [V.cells]) (by simp [V.cells]) rfl d2e (by simp) (h1 (by simp)) hv
theorem f3q {cx:Cx} {w:World} {μ:Nat→Option Loc} {ow:Ow} {vw:Bool} {id:Nat} {xs:List V} (hn:xs.all V.noSl=true) {bl:List Nat} {vs:List Value} (h1:RepL w (Kd.mix.mu μ) (xs.flatMap V.cells) vs bl):RepL w (Kd.part.mu μ) (xs.flatMap V.cells) vs bl∧c1v cx ow vw id bl .part:=by
  have:bl=[]:=b5k h1 hn
  subst this
  exact ⟨h1,by simp,by simp⟩
theorem d7r {m:Nat} {s:St} {O1:List Blk} (h:c3r s.vw s.O O1):b5i m s {s with O:=O1}:=fun cx a w μ ow _ hr=>let ⟨ow',q,_⟩:=h.2 cx s.env s.n s.mask a w μ ow hr;⟨μ,ow',q⟩
theorem d2d {P:Program} {s:St} {f:FuncId} {args args':List V} {r:V} {bk bk':Blk} {O' O1:List Blk} {K:V→St→Prop} (id:Nat) (hp:c3r s.vw s.O O1) (hc:Con P f args' [bk] r (bk'::O')) (ht:b1l {s with O:=O1} [id] args=some args')
    (hO:O1[id]? =some bk) (hbk:bk.kindIs (fun k=>k.nm)=true∧bk≠.dead) (hv:s.vw=false∨bk.kindIs (fun k=>k == .flat)=true)
    (hcl:r.clean=true∧∀b∈bk'::O',b.kindIs (fun k=>k != .shal && k.nm)=true) (hk:K (r.ren (rho [id] O1.length)) {s with O:=O1.set id bk'++O'}):c1y P s f [id] args K:=
  ⟨O1,.inr ⟨by simp,hp⟩,d3f ht (by simp [hO]) (by simp) (by simpa using hbk) (hv.imp (fun h=>h) (fun h=>by simpa using h)) hc (.inl hcl) (by simpa [b3x] using hk)⟩
end Go.Vm
namespace Go.Vm
open Go
section
variable {α:Type} {f:α→V}
def d03 (f:α→V):Sum V (List α)→V
  | .inl v=>v
  | .inr l=>.sl (l.map f)
def f8b (N:Nat):Sum V (List α)→V
  | .inl v=>v
  | .inr l=>c53 N l
def b9g:Nat→List (Sum V (List α))→List V
  | _,[]=>[]
  | N,c::cs=>f8b N c::b9g (N+1) cs
def f1x (f:α→V):Sum V (List α)→Blk
  | .inl _=>.dead
  | .inr l=>d53 f l
def b5g (f:α→V) (cs:List (Sum V (List α))):List Blk:=cs.map (f1x f)
def d2l (cs:List (Sum V (List α))):Prop:=∀v,Sum.inl v∈cs→v.only (fun _=>false)=true∧v.noSl=true∧v.cells=[v]
theorem d65 {w:World} {μ:Nat→Option Loc} {v:V} {x:Value} {bl:List Nat} (h:Rep w μ v x bl) (hn:v.noSl=true) (hc:v.cells=[v]):bl=[]:=by
  have h2:RepL w μ [v] [x] (bl++[]):=.cons _ _ _ _ _ _ h .nil
  have h3:RepL w μ ([v].flatMap V.cells) [x] (bl++[]):=by simpa [hc] using h2
  have:=b5k h3 (by simp [hn])
  simpa using this
theorem c37 {w:World} (hf:∀a,(f a).noSl=true):∀(ll:List (Sum V (List α))) {vs:List Value} {bl:List Nat},d2l ll→RepL w M0 (ll.map (d03 f)) vs bl→(∀b∈bl,d40 w b)→
    ∃ locs:List (Option Loc),locs.length=ll.length∧bl=locs.filterMap (Option.map Loc.b)∧
      (∀(i:Nat) (l:List α),ll[i]? =some (.inr l)→l.isEmpty=false→∃loc,locs[i]? =some (some loc)∧loc.real=true∧loc.n=(l.map f).length∧Cells w M0 loc (l.map f) [])∧
      ∀(μ':Nat→Option Loc) (N:Nat),(∀(i:Nat) (loc:Loc),locs[i]? =some (some loc)→μ' (N+i)=some loc)→RepL w μ' (b9g N ll) vs []
  | [],vs,bl,_,h,_=>by
    cases h
    exact ⟨[],rfl,rfl,by simp,fun _ _ _=>.nil⟩
  | .inl v::ll,vs,bl,hp,h,hl=>by
    rw [List.map_cons] at h
    cases h with
    | cons _ x blh _ xs bl' h1 h2=>
      obtain ⟨locs,q1,q2,q3,q4⟩:=c37 hf ll (fun v hv=>hp v (List.mem_cons_of_mem _ hv)) h2 fun b hb=>hl b (List.mem_append_right _ hb)
      have hv:=hp v (List.mem_cons_self ..)
      have h1':Rep w M0 v x blh:=h1
      obtain rfl:=d65 h1' hv.2.1 hv.2.2
      refine ⟨none::locs,by simp [q1],by simpa using q2,?_,?_⟩
      · intro i l hi hne
        cases i with
        | zero=>simp at hi
        | succ i=>exact q3 i l (by simpa using hi) hne
      · intro μ' N hμ
        have:=q4 μ' (N+1) fun i loc hi=>by have:=hμ (i+1) loc (by simpa using hi);rwa [show N+(i+1)=N+1+i by omega] at this
        exact .cons _ _ [] _ _ [] (Rep.only (p:=fun _=>false) (fun _ _ q=>by cases q) h1' hv.1) this
  | .inr l :: ll,vs,bl,hp,h,hl=>by
    rw [List.map_cons] at h
    cases h with
    | cons _ x blh _ xs bl' h1 h2=>
      obtain ⟨locs,q1,q2,q3,q4⟩:=c37 hf ll (fun v hv=>hp v (List.mem_cons_of_mem _ hv)) h2 fun b hb=>hl b (List.mem_append_right _ hb)
      cases hl0:l.isEmpty with
      | true=>
        have e0:l=[]:=List.isEmpty_iff.1 hl0
        subst e0
        have hx:(∃a c,x=.slice a 0 c)∧blh=[]:=by
          have h1':Rep w M0 (.sl []) x blh:=h1
          cases h1' with
          | sl0 a c=>exact ⟨⟨a,c,rfl⟩,rfl⟩
          | sl _ _ _ _ _ _ _ h0=>exact absurd rfl h0
        obtain ⟨⟨a,c,rfl⟩,rfl⟩:=hx
        refine ⟨none::locs,by simp [q1],by simpa using q2,?_,?_⟩
        · intro i l hi hne
          cases i with
          | zero=>simp at hi;subst hi;simp at hne
          | succ i=>exact q3 i l (by simpa using hi) hne
        · intro μ' N hμ
          have:=q4 μ' (N+1) fun i loc hi=>by have:=hμ (i+1) loc (by simpa using hi);rwa [show N+(i+1)=N+1+i by omega] at this
          exact .cons _ _ [] _ _ [] (.sl0 a c) this
      | false =>
        have hne:l.map f≠[]:=by
          intro e
          rw [List.map_eq_nil_iff] at e
          subst e;simp at hl0
        have h1':Rep w M0 (.sl (l.map f)) x blh:=h1
        generalize hxs:l.map f=ys at h1' hne
        cases h1' with
        | sl0 a c=>exact absurd rfl hne
        | sl _ b off c sz vs' bl'' h0 hc hs hz hl' k1 hr=>
          have hnil:bl''=[]:=b5k hl' (by rw [←hxs,List.all_map,List.all_eq_true];intro a _;exact hf a)
          subst hnil
          obtain ⟨cs,t,hh⟩:=hl b (by simp)
          let loc:Loc:=⟨b,off,sz,ys.length,c,true⟩
          have hcells:Cells w M0 loc ys []:=by
            refine ⟨hc.1,hs,hz,cs,t,vs',hh,?_,hl',k1,fun j y hj=> ?_⟩
            · obtain ⟨cs2,t2,fr2,e2,e3⟩:=hc.2
              rw [hh] at e2
              cases e2
              exact e3
            · have:=hr j y hj
              rwa [cell_of_row w b _ cs t _ hh] at this
          refine ⟨some loc::locs,by simp [q1],by simp [loc,q2],?_,?_⟩
          · intro i l2 hi hne2
            cases i with
            | zero=>simp at hi;subst hi;exact ⟨loc,rfl,rfl,by rw [hxs],by rw [hxs];exact hcells⟩
            | succ i=>exact q3 i l2 (by simpa using hi) hne2
          · intro μ' N hμ
            have:=q4 μ' (N+1) fun i loc hi=>by have:=hμ (i+1) loc (by simpa using hi);rwa [show N+(i+1)=N+1+i by omega] at this
            have hm:=hμ 0 loc rfl
            refine .cons _ _ [] _ _ [] ?_ this
            show Rep w μ' (c53 N l) _ _
            unfold c53
            rw [hl0]
            exact .ref N loc _ hm (Hd.real (l:=loc) rfl)
theorem b68 {m:Nat} {s:St} (id:Nat) (xs xs':List V) (ll:List (Sum V (List α))) (k:Kd) (hO:s.O[id]? =some (.arr xs k)) (hc:xs.flatMap V.cells=ll.map (d03 f)) (hc':xs'.flatMap V.cells=b9g s.O.length ll) (hlen:xs'.length=xs.length)
    (hsz:∀n,(∀x∈xs,x.cells.length=n)→∀x∈xs',x.cells.length=n) (hp:d2l ll) (hk:k=.flat∨k=.deep) (hv:s.vw=false) (hf:∀a,(f a).noSl=true) :
    b5i m s {s with O:=s.O.set id (.arr xs' .mix)++b5g f ll}:=by
  intro cx a w μ ow hmu h
  have hid:id < s.O.length:=(List.getElem?_eq_some_iff.1 hO).1
  obtain ⟨l,hl1,hl2,hl3⟩:=h.blk id _ hO
  have hbl:∃locs:List (Option Loc),locs.length=ll.length∧(locs.filterMap (Option.map Loc.b)).Nodup∧(∀b∈locs.filterMap (Option.map Loc.b),ow b=some (false,id))∧
      (∀(i:Nat) (l:List α),ll[i]? =some (.inr l)→l.isEmpty=false→∃loc,locs[i]? =some (some loc)∧loc.real=true∧loc.n=(l.map f).length∧Cells w M0 loc (l.map f) [])∧
      ∀ (μ':Nat→Option Loc),MLe μ μ'→(∀(i:Nat) (loc:Loc),locs[i]? =some (some loc)→μ' (s.O.length+i)=some loc)→
        (l.real=false∧xs'=[])∨(l.real=true∧ow l.b=some (true,id)∧Cells w μ' l xs' []∧xs'≠[]):=by
    rcases hl3 with ⟨q1,q2⟩ | ⟨q1,q2,bl,q3,q4,q5⟩
    · have e0:xs'=[]:=List.length_eq_zero_iff.1 (by rw [hlen,q2];rfl)
      have e1:ll=[]:=by rw [q2] at hc;simpa using hc.symm
      subst e1
      exact ⟨[],rfl,by simp,by simp,by simp,fun _ _ _=>.inl ⟨q1,e0⟩⟩
    · have hne:=q5 (by rcases hk with e | e<;>subst e<;>simp)
      have hkm:k.mu μ=M0:=by rcases hk with e | e<;>subst e<;>rfl
      rw [hkm] at q3
      obtain ⟨c1,c2,c3,c,t,vs,c4,c5,c6,c7,c8⟩:=q3
      rw [hc] at c6
      have hown:bl.Nodup∧∀b∈bl,ow b=some (false,id):=by
        rcases hk with e | e
        · subst e;have:bl=[]:=q4;subst this;simp
        · subst e;exact q4
      obtain ⟨locs,p1,p2,p3,p4⟩:=c37 hf ll hp c6 fun b hb=>h.owl b (by rw [hown.2 b hb];simp)
      subst p2
      refine ⟨locs,p1,hown.1,hown.2,p3,fun μ' hm hμ=>.inr ⟨q1,q2,⟨c1,c2,?_,c,t,vs,c4,c5,?_,c7,c8⟩,?_⟩⟩
      rotate_left 2
      · intro e
        rw [e] at hlen
        exact hne (List.length_eq_zero_iff.1 hlen.symm)
      · exact hsz l.sz c3
      · rw [hc']
        exact p4 μ' _ hμ
  obtain ⟨locs,p1,p2,p3,p4,p5⟩:=hbl
  let N:=s.O.length
  let μ':Nat→Option Loc:=fun j=>if j < N then μ j else (locs[j - N]?).join
  let ow':Ow:=fun b=>match c6q b locs with | some i=>some (true,N+i) | none=>ow b
  have hm:MLe μ μ':=by
    intro j lc e
    have:j < N:=by
      rcases Nat.lt_or_ge j N with q | q
      · exact q
      · rw [h.dom j q] at e;cases e
    simp only [μ',this,if_true];exact e
  have hμ:∀i loc,locs[i]? =some (some loc)→μ' (N+i)=some loc:=by
    intro i loc e
    have h1:¬N+i < N:=by omega
    simp only [μ',h1,if_false,Nat.add_sub_cancel_left,e];rfl
  have hnone:∀b,ow b≠some (false,id)→ow' b=ow b:=by
    intro b hb
    have:c6q b locs=none:=d7v fun hx=>hb (p3 b hx)
    simp only [ow',this]
  have hne:∀b,ow' b≠none→ow b≠none:=by
    intro b hb e
    apply hb
    rw [hnone b (by rw [e];simp)];exact e
  have hvok:∀b,VOK cx ow s.vw b→VOK cx ow' s.vw b:=by
    intro b hb
    rw [hv] at hb⊢
    have h0:ow b=none:=hb.1.resolve_right (by simp)
    exact ⟨.inl (by rw [hnone b (by rw [h0];simp)];exact h0),hb.2⟩
  refine ⟨μ',ow',h.dfr,h.sz,fun t=> ?_,fun j bk e=> ?_,fun j hj=> ?_,fun b hb=>h.owl b (hne b hb),fun b hb=>h.own b (hne b hb),h.frm,h.mu.trans hm⟩
  · obtain ⟨bl,r1,r2⟩:=h.env t
    exact ⟨bl,r1.keep hm fun _ _=>rfl,fun b hb=>hvok b (r2 b hb)⟩
  · rcases Nat.lt_or_ge j N with hj | hj
    · rw [List.getElem?_append_left (by rw [List.length_set];exact hj)] at e
      by_cases hji:j=id
      · subst hji
        rw [List.getElem?_set_self hid] at e
        simp only [Option.some.injEq] at e
        subst e
        refine ⟨l,hm _ _ hl1,by rw [hlen];simpa using hl2,?_⟩
        rcases p5 μ' hm hμ with q | ⟨q1,q2,q3,q4⟩
        · exact .inl q
        · exact .inr ⟨q1,by rw [hnone l.b (by rw [q2];simp)];exact q2,[],q3,by simp [c1v],fun _=>q4⟩
      · rw [List.getElem?_set_ne (fun q=>hji q.symm)] at e
        refine (h.blk j bk e).keep hm (fun q=>q) fun b hb hc=>⟨rfl,hnone b ?_⟩
        rcases hc with q | q | q
        · rw [q];simp
        · rw [q];simp;exact hji
        · rw [hv] at q
          rw [q.1.resolve_right (by simp)];simp
    · rw [List.getElem?_append_right (by rw [List.length_set];exact hj),List.length_set] at e
      have e':(b5g f ll)[j - N]? =some bk:=e
      rw [b5g,List.getElem?_map,Option.map_eq_some_iff] at e'
      obtain ⟨c0,e1,e2⟩:=e'
      subst e2
      cases c0 with
      | inl v=>trivial
      | inr l0=>
        show b8u cx w μ' ow' s.vw j (d53 f l0)
        unfold d53
        cases hl0:l0.isEmpty with
        | true=>simp only [if_true];trivial
        | false=>
          simp only [Bool.false_eq_true,if_false]
          obtain ⟨loc,z1,z2,z3,z4⟩:=p4 _ _ e1 hl0
          have hjn:N+(j - N)=j:=by omega
          refine ⟨loc,by rw [←hjn];exact hμ _ _ z1,z3,.inr ⟨z2,?_,[],z4,rfl,fun _ q=>by rw [List.map_eq_nil_iff] at q;subst q;simp at hl0⟩⟩
          simp only [ow',c67 p2 z1]
          rw [hjn]
  · have hlen2:(s.O.set id (.arr xs' .mix)++b5g f ll).length=N+ll.length:=by simp [b5g,N]
    have hj':N+ll.length≤j:=by rw [←hlen2];exact hj
    have h1:¬j < N:=by omega
    have h2:locs[j - N]? =none:=List.getElem?_eq_none (by omega)
    simp only [μ',h1,if_false,h2];rfl
theorem c17 {w:World} {μ:Nat→Option Loc} {ow:Ow}:∀(ll:List (Sum V (List α))) (N:Nat) {vs:List Value} {bl:List Nat},d2l ll→RepL w μ (b9g N ll) vs bl→
    (∀(i:Nat) (l:List α),ll[i]? =some (.inr l)→l.isEmpty=false→∃loc,μ (N+i)=some loc∧loc.real=true∧loc.n=(l.map f).length∧Cells w M0 loc (l.map f) []∧ow loc.b=some (true,N+i))→
    ∃bl',RepL w M0 (ll.map (d03 f)) vs bl'∧bl'.Nodup∧∀b∈bl',∃i,ow b=some (true,N+i)
  | [],N,vs,bl,_,h,_=>by
    cases h
    exact ⟨[],.nil,by simp,by simp⟩
  | .inl v::ll,N,vs,bl,hp,h,hl=>by
    rw [b9g] at h
    cases h with
    | cons _ x blh _ xs bl' h1 h2=>
      obtain ⟨bt,q1,q2,q3⟩:=c17 ll (N+1) (fun v hv=>hp v (List.mem_cons_of_mem _ hv)) h2 fun i l hi hne=>by
        obtain ⟨loc,z1,z2⟩:=hl (i+1) l (by simpa using hi) hne
        rw [show N+(i+1)=N+1+i by omega] at z1 z2
        exact ⟨loc,z1,z2⟩
      have hv:=hp v (List.mem_cons_self ..)
      have h1':Rep w μ v x blh:=h1
      obtain rfl:=d65 h1' hv.2.1 hv.2.2
      refine ⟨[]++bt,.cons _ _ _ _ _ _ (Rep.only (p:=fun _=>false) (fun _ _ q=>by cases q) h1' hv.1) q1,by simpa using q2,fun b hb=> ?_⟩
      obtain ⟨i,e⟩:=q3 b (by simpa using hb)
      exact ⟨i+1,by rw [e];congr 2;omega⟩
  | .inr l :: ll,N,vs,bl,hp,h,hl=>by
    rw [b9g] at h
    cases h with
    | cons _ x blh _ xs bl' h1 h2=>
      obtain ⟨bt,q1,q2,q3⟩:=c17 ll (N+1) (fun v hv=>hp v (List.mem_cons_of_mem _ hv)) h2 fun i l hi hne=>by
        obtain ⟨loc,z1,z2⟩:=hl (i+1) l (by simpa using hi) hne
        rw [show N+(i+1)=N+1+i by omega] at z1 z2
        exact ⟨loc,z1,z2⟩
      have q3':∀b∈bt,∃i,ow b=some (true,N+(i+1)):=fun b hb=>by
        obtain ⟨i,e⟩:=q3 b hb
        exact ⟨i,by rw [e];congr 2;omega⟩
      have h1:Rep w μ (c53 N l) x blh:=h1
      unfold c53 at h1
      cases hl0:l.isEmpty with
      | true=>
        have e0:l=[]:=List.isEmpty_iff.1 hl0
        subst e0
        have hx:∃a c,x=.slice a 0 c:=by
          have h1':Rep w μ (.sl []) x blh:=h1
          cases h1' with
          | sl0 a c=>exact ⟨a,c,rfl⟩
          | sl _ _ _ _ _ _ _ h0=>exact absurd rfl h0
        obtain ⟨a,c,rfl⟩:=hx
        refine ⟨[]++bt,.cons _ _ _ _ _ _ (.sl0 a c) q1,by simpa using q2,fun b hb=> ?_⟩
        obtain ⟨i,e⟩:=q3' b (by simpa using hb)
        exact ⟨i+1,e⟩
      | false=>
        rw [hl0] at h1
        obtain ⟨loc,z1,z2,z3,⟨c1,c2,c3,c,t,vs',c4,c5,c6,c7,c8⟩,z5⟩:=hl 0 l rfl hl0
        have h1':Rep w μ (.ref N) x blh:=h1
        have hx:x=.slice (some ⟨loc.b,loc.off,none⟩) (l.map f).length loc.cap:=by
          cases h1' with
          | ref _ lc _ hm hd=>
            have hm':μ N=some loc:=z1
            rw [hm'] at hm
            cases hm
            rw [←z3]
            cases hd with
            | real hr=>rfl
            | nil a hr h0=>rw [z2] at hr;cases hr
        subst hx
        have hrep:Rep w M0 (d03 f (.inr l)) (.slice (some ⟨loc.b,loc.off,none⟩) (l.map f).length loc.cap) [loc.b]:=
          .sl (l.map f) loc.b loc.off loc.cap loc.sz vs' [] (fun q=>by rw [List.map_eq_nil_iff] at q;subst q;simp at hl0) ⟨by rw [←z3];exact c1,c,t,(0,0),c4,c5⟩ c2 c3 c6 c7 fun j y hj=>by
            rw [cell_of_row w loc.b _ c t _ c4];exact c8 j y hj
        refine ⟨[loc.b]++bt,.cons _ _ _ _ _ _ hrep q1,?_,?_⟩
        · rw [List.cons_append,List.nil_append,List.nodup_cons]
          refine ⟨fun hb=> ?_,q2⟩
          obtain ⟨i,e⟩:=q3' _ hb
          rw [z5] at e
          simp only [Option.some.injEq,Prod.mk.injEq,true_and] at e
          omega
        · intro b hb
          rcases List.mem_append.1 hb with e | e
          · rw [List.mem_singleton] at e;subst e;exact ⟨0,z5⟩
          · obtain ⟨i,e⟩:=q3' b e;exact ⟨i+1,e⟩
theorem b6j {m:Nat} {s:St} (A:List Blk) (id:Nat) (xs xs':List V) (ll:List (Sum V (List α))) (hO:s.O=A++b5g f ll) (hA:A[id]? =some (.arr xs' .mix)) (hc:xs.flatMap V.cells=ll.map (d03 f)) (hc':xs'.flatMap V.cells=b9g A.length ll) (hlen:xs'.length=xs.length)
    (hsz:∀n,(∀x∈xs',x.cells.length=n)→∀x∈xs,x.cells.length=n) (hp:d2l ll) :
    b5i m s {s with O:=A.set id (.arr xs .deep)++List.replicate ll.length .dead}:=by
  intro cx a w μ ow hmu h
  have hid:id < A.length:=(List.getElem?_eq_some_iff.1 hA).1
  let N:=A.length
  obtain ⟨l,hl1,hl2,hl3⟩:=h.blk id (.arr xs' .mix) (by rw [hO,List.getElem?_append_left hid];exact hA)
  have hin:∀(i:Nat) (l:List α),ll[i]? =some (.inr l)→l.isEmpty=false→∃loc,μ (N+i)=some loc∧loc.real=true∧loc.n=(l.map f).length∧Cells w M0 loc (l.map f) []∧ow loc.b=some (true,N+i):=by
    intro i l hi hne
    have hb:=h.blk (N+i) (.arr (l.map f) .flat) (by
      rw [hO,List.getElem?_append_right (by show A.length≤A.length+i;omega)]
      show (b5g f ll)[A.length+i - A.length]? =_
      rw [Nat.add_sub_cancel_left,b5g,List.getElem?_map,hi]
      simp only [Option.map_some,f1x,d53,hne,Bool.false_eq_true,if_false])
    obtain ⟨loc,z1,z2,z3⟩:=hb
    rcases z3 with ⟨_,z3⟩ | ⟨z3,z4,bl,z5,z6⟩
    · rw [List.map_eq_nil_iff] at z3;subst z3;simp at hne
    · have:bl=[]:=z6.1
      subst this
      exact ⟨loc,z1,z3,z2,z5,z4⟩
  let ow':Ow:=fun b=>match ow b with
    | some (true,j)=>if N≤j then some (false,id) else some (true,j)
    | o=>o
  have o0:∀b,ow b=none→ow' b=none:=fun b e=>by simp [ow',e]
  have o1:∀b j,ow b=some (false,j)→ow' b=some (false,j):=fun b j e=>by simp [ow',e]
  have o2:∀b j,j < N→ow b=some (true,j)→ow' b=some (true,j):=fun b j hj e=>by
    have:¬N≤j:=by omega
    simp [ow',e,this]
  have o3:∀b j,N≤j→ow b=some (true,j)→ow' b=some (false,id):=fun b j hj e=>by simp [ow',e,hj]
  have hvok:∀b,VOK cx ow s.vw b→ow' b=ow b:=by
    intro b hb
    rcases hb.1 with e | ⟨_,j,e⟩
    · rw [o0 b e,e]
    · rw [o1 b j e,e]
  have hne:∀b,ow' b≠none→ow b≠none:=fun b hb e=>hb (o0 b e)
  refine ⟨μ,ow',h.dfr,h.sz,fun t=> ?_,fun j bk e=> ?_,fun j hj=> ?_,fun b hb=>h.owl b (hne b hb),fun b hb=>h.own b (hne b hb),h.frm,h.mu⟩
  · obtain ⟨bl,r1,r2⟩:=h.env t
    exact ⟨bl,r1,fun b hb=>(r2 b hb).mono (hvok b (r2 b hb)) (fun q=>q)⟩
  · rcases Nat.lt_or_ge j N with hj | hj
    · rw [List.getElem?_append_left (by rw [List.length_set];exact hj)] at e
      by_cases hji:j=id
      · subst hji
        rw [List.getElem?_set_self hid] at e
        simp only [Option.some.injEq] at e
        subst e
        refine ⟨l,hl1,by rw [←hlen];exact hl2,?_⟩
        rcases hl3 with ⟨q1,q2⟩ | ⟨q1,q2,bl,⟨c1,c2,c3,c,t,vs,c4,c5,c6,c7,c8⟩,q4,hne1⟩
        · exact .inl ⟨q1,List.length_eq_zero_iff.1 (by rw [←hlen,q2];rfl)⟩
        · have c6':RepL w μ (b9g A.length ll) vs bl:=by rw [←hc'];exact c6
          obtain ⟨bl',k1,k2,k3⟩:=c17 (f:=f) (ow:=ow) ll A.length hp c6' hin
          have hne0:=hne1 (by simp)
          refine .inr ⟨q1,o2 _ _ hid q2,bl',⟨c1,c2,hsz l.sz c3,c,t,vs,c4,c5,?_,c7,c8⟩,⟨k2,?_⟩,?_⟩
          · rw [hc];exact k1
          · intro b hb
            obtain ⟨i,e⟩:=k3 b hb
            exact o3 b _ (by show A.length≤A.length+i;omega) e
          · intro _ e
            rw [e] at hlen
            exact hne0 (List.length_eq_zero_iff.1 hlen)
      · rw [List.getElem?_set_ne (fun q=>hji q.symm)] at e
        refine (h.blk j bk (by rw [hO,List.getElem?_append_left hj];exact e)).keep (MLe.refl _) (fun q=>q) fun b _ hc=>⟨rfl,?_⟩
        rcases hc with q | q | q
        · rw [o2 b j hj q,q]
        · rw [o1 b j q,q]
        · exact hvok b q
    · rw [List.getElem?_append_right (by rw [List.length_set];exact hj)] at e
      rw [List.eq_of_mem_replicate (List.mem_of_getElem? e)]
      trivial
  · refine h.dom j ?_
    rw [hO]
    have hj':(A.set id (.arr xs .deep)++List.replicate ll.length Blk.dead).length≤j:=hj
    simpa [b5g] using hj'
end
theorem d5t {P:Program} {s:St} {f:FuncId} {args args':List V} {r:V} {b1 b2 b3 b1' b2' b3':Blk} {O':List Blk} {K:V→St→Prop} (i j k:Nat) (hc:Con P f args' [b1,b2,b3] r (b1'::b2'::b3'::O')) (ht:b1l s [i,j,k] args=some args')
    (h1:s.O[i]? =some b1) (h2:s.O[j]? =some b2) (h3:s.O[k]? =some b3) (hn:[i,j,k].Nodup) (hbk:∀b∈[b1,b2,b3],b.kindIs (fun k=>k.nm)=true∧b≠.dead) (hv:s.vw=false∨∀b∈[b1,b2,b3],b.kindIs (fun k=>k == .flat)=true)
    (hcl:r.clean=true∧∀b∈b1'::b2'::b3'::O',b.kindIs (fun k=>k != .shal && k.nm)=true) (hk:K (r.ren (rho [i,j,k] s.O.length)) {s with O:=((s.O.set i b1').set j b2').set k b3'++O'}):c1y P s f [i,j,k] args K:=
  d0f ht (by simp [h1,h2,h3]) hn hbk hv hc (.inl hcl) (by simpa [b3x] using hk)
end Go.Vm
namespace Go.Vm
open Go
section
variable {τ α:Type} {pre:τ→List V} {sl:τ→List α} {f:α→V} {n:Nat}
def f8i (pre:τ→List V) (sl:τ→List α) (f:α→V) (t:τ):V:=.agg (pre t++[.sl ((sl t).map f)])
def b83 (pre:τ→List V) (sl:τ→List α) (t:τ):List (Sum V (List α)):=(pre t).map .inl++[.inr (sl t)]
def d0o (pre:τ→List V) (sl:τ→List α) (n N:Nat) (t:τ):V:=.agg (pre t++[c53 (N+n) (sl t)])
def b3c (pre:τ→List V) (sl:τ→List α) (n:Nat):Nat→List τ→List V
  | _,[]=>[]
  | N,t::l=>d0o pre sl n N t::b3c pre sl n (N+(n+1)) l
theorem c0g:∀(a b:List (Sum V (List α))) (N:Nat),b9g N (a++b)=b9g N a++b9g (N+a.length) b
  | [],b,N=>rfl
  | c::a,b,N=>by
    rw [List.cons_append,b9g,b9g,c0g a b (N+1),List.cons_append,List.length_cons]
    congr 3;omega
theorem d4c:∀(vs:List V) (N:Nat),b9g N (vs.map (Sum.inl:V→Sum V (List α)))=vs
  | [],_=>rfl
  | v::vs,N=>by rw [List.map_cons,b9g,d4c vs];rfl
theorem b9h (hn:∀t,(pre t).length=n) (t:τ):(b83 pre sl t).length=n+1:=by rw [b83,List.length_append,List.length_map,hn];rfl
theorem b3f:∀(l:List τ) (N:Nat),(b3c pre sl n N l).length=l.length
  | [],_=>rfl
  | t::l,N=>by rw [b3c,List.length_cons,List.length_cons,b3f l]
theorem c4z (l:List τ):(l.map (f8i pre sl f)).flatMap V.cells=(l.flatMap (b83 pre sl)).map (d03 f):=by
  induction l with
  | nil=>rfl
  | cons t l ih=>
    rw [List.map_cons,List.flatMap_cons,List.flatMap_cons,List.map_append,ih]
    congr 1
    rw [b83,List.map_append,List.map_map]
    show pre t++[V.sl ((sl t).map f)]=_
    congr 1
    exact (List.map_id _).symm
theorem c1d (hn:∀t,(pre t).length=n):∀(l:List τ) (N:Nat),(b3c pre sl n N l).flatMap V.cells=b9g N (l.flatMap (b83 pre sl))
  | [],_=>rfl
  | t::l,N=>by
    rw [b3c,List.flatMap_cons,List.flatMap_cons,c0g,b9h hn,←c1d hn l]
    congr 1
    rw [b83,c0g,d4c,List.length_map,hn];rfl
theorem b4g (hp:∀t,∀v∈pre t,v.only (fun _=>false)=true∧v.noSl=true∧v.cells=[v]) (l:List τ):d2l (l.flatMap (b83 pre sl)):=by
  intro v hv
  obtain ⟨t,_,ht⟩:=List.mem_flatMap.1 hv
  rw [b83,List.mem_append] at ht
  rcases ht with h | h
  · obtain ⟨u,hu,e⟩:=List.mem_map.1 h
    cases e
    exact hp t v hu
  · rw [List.mem_singleton] at h;cases h
theorem c2u:∀{l:List τ} {N i:Nat} {t:τ},l[i]? =some t→(b3c pre sl n N l)[i]? =some (d0o pre sl n (N+(n+1) * i) t)
  | [],_,_,_,h=>by simp at h
  | x::l,N,0,t,h=>by
    obtain rfl:x=t:=by simpa using h
    rfl
  | x::l,N,i+1,t,h=>by
    rw [b3c,List.getElem?_cons_succ,c2u (l:=l) (by simpa using h)]
    congr 2
    rw [Nat.mul_add];omega
theorem b7s:∀{l:List τ} {N i:Nat} {t:τ},(b3c pre sl n N l).set i (d0o pre sl n (N+(n+1) * i) t)=b3c pre sl n N (l.set i t)
  | [],_,_,_=>rfl
  | x::l,N,0,t=>rfl
  | x::l,N,i+1,t=>by
    rw [b3c,List.set_cons_succ,List.set_cons_succ,b3c,←b7s (l:=l)]
    congr 3
    rw [Nat.mul_add];omega
theorem c2q (hn:∀t,(pre t).length=n):∀{l:List τ} {i:Nat} {t:τ},l[i]? =some t→(b5g f (l.flatMap (b83 pre sl)))[(n+1) * i+n]? =some (d53 f (sl t))
  | [],_,_,h=>by simp at h
  | x::l,0,t,h=>by
    obtain rfl:x=t:=by simpa using h
    rw [b5g,List.flatMap_cons,List.map_append,List.getElem?_append_left (by rw [List.length_map,b9h hn];omega),b83,List.map_append,List.getElem?_append_right (by simp [hn])]
    simp [hn,f1x]
  | x::l,i+1,t,h=>by
    have ih:=c2q hn (l:=l) (i:=i) (t:=t) (by simpa using h)
    rw [b5g] at ih
    rw [b5g,List.flatMap_cons,List.map_append,List.getElem?_append_right (by rw [List.length_map,b9h hn,Nat.mul_add];omega),List.length_map,b9h hn,show (n+1) * (i+1)+n - (n+1)=(n+1) * i+n by rw [Nat.mul_add];omega]
    exact ih
theorem c2z (hn:∀t,(pre t).length=n):∀{l:List τ} {i:Nat} {t:τ},i < l.length→(b5g f (l.flatMap (b83 pre sl))).set ((n+1) * i+n) (d53 f (sl t))=b5g f ((l.set i t).flatMap (b83 pre sl))
  | [],_,_,h=>by simp at h
  | x ::l,0,t,_=>by
    rw [b5g,b5g,List.set_cons_zero,List.flatMap_cons,List.flatMap_cons,List.map_append,List.map_append,List.set_append_left _ _ (by rw [List.length_map,b9h hn];omega)]
    congr 1
    rw [b83,b83,List.map_append,List.map_append,List.set_append_right _ _ (by simp [hn])]
    have e:∀t:τ,((pre t).map (Sum.inl:V→Sum V (List α))).map (f1x f)=List.replicate n Blk.dead:=fun t=>by
      rw [List.map_map,←hn t]
      exact List.map_const' ..
    rw [e,e]
    simp [f1x]
  | x::l,i+1,t,h=>by
    have ih:=c2z hn (l:=l) (i:=i) (t:=t) (by simpa using h)
    rw [b5g,b5g] at ih
    rw [b5g,b5g,List.set_cons_succ,List.flatMap_cons,List.flatMap_cons,List.map_append,List.map_append,List.set_append_right _ _ (by rw [List.length_map,b9h hn,Nat.mul_add];omega),List.length_map,b9h hn,show (n+1) * (i+1)+n - (n+1)=(n+1) * i+n by rw [Nat.mul_add];omega,ih]
end
end Go.Vm
namespace Go.Vm
open Go
def zE:=(And.intro (@c85) (And.intro (@b0i) (And.intro (@b0n) (And.intro (@d6t) (And.intro (@f5a) (And.intro (@d62) (And.intro (@f2l) (And.intro (@b45) (And.intro (@f3h) (And.intro (@List.append_nil.{0}) (And.intro (@List.nil_append.{0}) (And.intro (@List.cons_append.{0}) (And.intro (@true_and) (And.intro (@and_true) (And.intro (@and_self) (And.intro (@imp_self) (And.intro (@Bool.false_eq_true) (And.intro (@false_implies) (And.intro (@cond_true.{1}) (And.intro (@cond_false.{1}) (And.intro (@decide_eq_true_eq) (And.intro (@eq_self_iff_true.{1}) (And.intro (@exists_eq_left'.{1}) (And.intro (@Option.some.injEq.{0}) (And.intro (@not_false_eq_true) (And.intro (@not_true_eq_false) (@ne_eq.{1})))))))))))))))))))))))))))
def zS:=(And.intro (@d9u) (And.intro (@d4m) (And.intro (@d7z) (And.intro (@d9x) (And.intro (@f1f) (And.intro (@d8m) (And.intro (@d7p) (And.intro (@d9h) (And.intro (@f02) (And.intro (@d8n) (And.intro (@f1a) (And.intro (@d8y) (And.intro (@d92) (And.intro (@d5b) (And.intro (@d46) (And.intro (@d5v) (And.intro (@d3v) (And.intro (@d4n) (And.intro (@d7k) (And.intro (@d6j) (And.intro (@List.length_nil.{0}) (And.intro (@List.length_cons.{0}) (And.intro (@List.length_append.{0}) (And.intro (@Nat.zero_add) (And.intro (@Nat.add_zero) (@List.cons_append.{0}))))))))))))))))))))))))))
def zN:=(And.intro (@Nat.zero_lt_one) (And.intro (@Nat.lt_add_one) (And.intro (@Nat.zero_add) (And.intro (@Nat.add_zero) (And.intro (@Nat.le_refl) (@Nat.zero_lt_succ))))))
def zL:=(And.intro (@List.getElem?_toArray.{0}) (And.intro (@List.getElem?_cons_succ.{0}) (And.intro (@List.getElem?_cons_zero.{0}) (And.intro (@List.getD_cons_zero.{0}) (And.intro (@List.getD_cons_succ.{0}) (And.intro (@List.length_cons.{0}) (And.intro (@List.length_nil.{0}) (And.intro (@List.drop_zero.{0}) (And.intro (@List.drop_succ_cons.{0}) (And.intro (@List.headD_cons.{0}) (And.intro (@List.take_succ_cons.{0}) (And.intro (@List.take_zero.{0}) (And.intro (@List.take_nil.{0}) (And.intro (@List.drop_nil.{0}) (And.intro (@List.map_cons.{0,0}) (And.intro (@List.map_nil.{0,0}) (And.intro (@Option.bind_some.{0,0}) (And.intro (@Option.isSome_some.{0}) (@Option.map_some.{0,0})))))))))))))))))))
def zO:=(And.intro (@Bool.or_false) (And.intro (@Bool.false_or) (And.intro (@Bool.or_true) (And.intro (@Bool.true_or) (And.intro (@Bool.not_true) (And.intro (@Bool.not_false) (And.intro (@Bool.and_false) (And.intro (@Bool.and_true) (And.intro (@Bool.false_and) (And.intro (@Bool.true_and) (And.intro (@decide_true) (And.intro (@decide_false) (And.intro (@Bool.or_self) (@Bool.and_self))))))))))))))
def zJ:=(And.intro (@c4o) (And.intro (@d1a) (And.intro (@c3t) (And.intro (@c9q) (And.intro (@c9a) (And.intro (@f7g) (And.intro (@b85) (And.intro (@List.isEmpty_nil.{0}) (And.intro (@List.isEmpty_cons.{0}) (And.intro (@c09) (And.intro (@List.not_mem_nil.{0}) (And.intro (@List.nodup_nil.{0}) (And.intro (@List.mem_singleton.{0}) (And.intro (@List.nodup_cons.{0}) (And.intro (@beq_self_eq_true.{0}) (And.intro (@Bool.cond_true.{1}) (And.intro (@Bool.cond_false.{1}) (And.intro (@List.all_cons.{0}) (And.intro (@List.all_nil.{0}) (And.intro (@List.set_cons_zero.{0}) (@List.set_cons_succ.{0})))))))))))))))))))))
def zP:=(And.intro (@Bool.cond_true_right) (And.intro (@Bool.cond_true_left) (And.intro (@Bool.cond_false_right) (@Bool.cond_false_left))))
def zG:=(And.intro (@List.getElem?_toArray.{0}) (And.intro (@List.getElem?_cons_succ.{0}) (And.intro (@List.getElem?_cons_zero.{0}) (@Option.bind_some.{0,0}))))
def zV:=(And.intro (@c85) (And.intro (@b0i) (And.intro (@cond_true.{1}) (And.intro (@cond_false.{1}) (And.intro (@Bool.and_false) (And.intro (@Bool.false_and) (And.intro (@Bool.not_true) (And.intro (@Bool.not_false) (And.intro (@List.getElem?_toArray.{0}) (And.intro (@List.getElem?_cons_succ.{0}) (And.intro (@List.getElem?_cons_zero.{0}) (@Option.bind_some.{0,0}))))))))))))
def zC:=(And.intro (@decide_eq_true_eq) (And.intro (@decide_eq_false_iff_not) (And.intro (@Bool.and_eq_true) (And.intro (@Bool.or_eq_true) (And.intro (@Bool.not_eq_true') (And.intro (@Bool.not_eq_false') (And.intro (@Bool.and_eq_false_imp) (And.intro (@Bool.or_eq_false_iff) (And.intro (@Int.not_lt) (And.intro (@Int.not_le) (And.intro (@Bool.true_eq_false) (And.intro (@Bool.false_eq_true) (And.intro (@imp_false) (@Classical.not_imp))))))))))))))
def zM:=(And.intro (@List.map_cons.{0,0}) (And.intro (@List.map_nil.{0,0}) (And.intro (@List.append_nil.{0}) (And.intro (@List.flatMap_nil.{0,0}) (And.intro (@List.mem_cons.{0}) (And.intro (@List.not_mem_nil.{0}) (And.intro (@or_false) (And.intro (@forall_eq_or_imp.{1}) (And.intro (@forall_eq.{1}) (@false_implies))))))))))
def zW:=(And.intro (@c85) (And.intro (@b0i) (And.intro (@b0n) (And.intro (@d6t) (And.intro (@f5a) (And.intro (@d62) (@f2l)))))))
def zY:=(And.intro (@List.append_nil.{0}) (And.intro (@List.cons_append.{0}) (And.intro (@List.nil_append.{0}) (And.intro (@List.length_nil.{0}) (And.intro (@List.length_cons.{0}) (And.intro (@Nat.zero_add) (And.intro (@Nat.not_lt_zero) (And.intro (@if_false.{1}) (@Nat.sub_zero)))))))))
theorem f7t:List.range 0=[]:=rfl
theorem f7l:List.range 1=[0]:=rfl
theorem f7q:List.range 2=[0,1]:=rfl
theorem f7s:List.range 3=[0,1,2]:=rfl
theorem f7o:List.range 4=[0,1,2,3]:=rfl
theorem f7p:List.range 5=[0,1,2,3,4]:=rfl
theorem f7n:List.range 6=[0,1,2,3,4,5]:=rfl
theorem f7r:List.range 7=[0,1,2,3,4,5,6]:=rfl
theorem f7m:List.range 8=[0,1,2,3,4,5,6,7]:=rfl
theorem f7k:List.range 9=[0,1,2,3,4,5,6,7,8]:=rfl
theorem f4f:List.range 10=[0,1,2,3,4,5,6,7,8,9]:=rfl
theorem f37:List.range 11=[0,1,2,3,4,5,6,7,8,9,10]:=rfl
theorem f4k:List.range 12=[0,1,2,3,4,5,6,7,8,9,10,11]:=rfl
theorem b1d:Kd.flat.nm=true:=rfl
theorem b1b:Kd.deep.nm=true:=rfl
end Go.Vm
namespace Go.Vm
open Go
def Kd.isMix:Kd→Bool
  | .mix | .part=>true
  | _=>false
theorem b6x:Kd.flat.isMix=false:=rfl
theorem b6z:Kd.deep.isMix=false:=rfl
theorem b67:Kd.shal.isMix=false:=rfl
theorem b61:Kd.thin.isMix=false:=rfl
theorem b8m:Kd.mix.isMix=true:=rfl
theorem b64:Kd.part.isMix=true:=rfl
theorem b6g (i:Nat):(b1v i).isMix=false:=by unfold b1v;split<;>rfl
theorem b8v (i:Nat):(thK i).isMix=false:=by unfold thK;split<;>rfl
def Blk.renM (ρ:Nat→Nat):Blk→Blk
  | .dead=>.dead
  | .arr xs k=>.arr (bif k.isMix then V.renL ρ xs else xs) k
  | .box x k=>.box (bif k.isMix then V.ren ρ x else x) k
def Blk.onlyM (p:Nat→Bool):Blk→Bool
  | .dead=>true
  | .arr xs k=> !k.isMix || V.onlyL p xs
  | .box x k=> !k.isMix || V.only p x
def St.compM (ids:List Nat) (s:St):St:={s with env:=s.env.map fun p=>(p.1,p.2.ren fun id=>(idx ids id).getD 0),O:=ids.map fun id=>(s.O.getD id .dead).renM fun id=>(idx ids id).getD 0}
theorem c01 (ρ:Nat→Nat):∀l:List V,V.renL ρ l=l.map (V.ren ρ)
  | []=>by rw [V.renL];rfl
  | v::l=>by rw [V.renL,c01 ρ l];rfl
theorem d21 (ρ:Nat→Nat) (v:V):(v.ren ρ).cells=v.cells.map (V.ren ρ):=by
  cases v<;>simp only [V.ren,V.cells,List.map_cons,List.map_nil]
  rw [c01]
theorem f1i (ρ:Nat→Nat) (l:List V):(V.renL ρ l).flatMap V.cells=V.renL ρ (l.flatMap V.cells):=by
  induction l with
  | nil=>simp [V.renL]
  | cons v l ih=>rw [V.renL,List.flatMap_cons,List.flatMap_cons,ih,d21,c01,c01,List.map_append]
theorem d9e {p:Nat→Bool} {v:V} (h:v.only p=true):V.onlyL p v.cells=true:=by
  cases v<;>simp_all [V.only,V.cells,V.onlyL]
theorem c5j {p:Nat→Bool}:∀{a b:List V},V.onlyL p a=true→V.onlyL p b=true→V.onlyL p (a++b)=true
  | [],_,_,h=>h
  | v::a,b,h,h2=>by
    rw [V.onlyL,Bool.and_eq_true] at h
    rw [List.cons_append,V.onlyL,h.1,c5j h.2 h2];rfl
theorem c9w {p:Nat→Bool}:∀{l:List V},V.onlyL p l=true→V.onlyL p (l.flatMap V.cells)=true
  | [],_=>by rw [List.flatMap_nil,V.onlyL]
  | v::l,h=>by
    rw [V.onlyL,Bool.and_eq_true] at h
    rw [List.flatMap_cons]
    exact c5j (d9e h.1) (c9w h.2)
theorem d8p {m:Nat} {s:St} (ids:List Nat) (hn:ids.Nodup) (hm:∀j,j < m→ids[j]? =some j) (he:∀p∈s.env,p.2.only (fun id=>(idx ids id).isSome)=true)
    (hb:∀id∈ids,∀bk,s.O[id]? =some bk→bk.onlyM (fun id=>(idx ids id).isSome)=true):b5i m s (s.compM ids):=by
  intro cx a w μ ow hmu h
  let ρ:Nat→Nat:=fun id=>(idx ids id).getD 0
  let μ':Nat→Option Loc:=fun j=>(ids[j]?).bind μ
  let ow':Ow:=fun b=>match ow b with
    | some (r,id)=>(idx ids id).map fun j=>(r,j)
    | none=>none
  have o0:∀b,ow b=none→ow' b=none:=fun b e=>by simp [ow',e]
  have o1:∀b id,ow b=some (false,id)→ow' b=none∨∃id',ow' b=some (false,id'):=fun b id e=>by
    cases q:idx ids id with
    | none=>exact .inl (by simp [ow',e,q])
    | some j=>exact .inr ⟨j,by simp [ow',e,q]⟩
  have oin:∀b r id j,ow b=some (r,id)→idx ids id=some j→ow' b=some (r,j):=fun b r id j e q=>by simp [ow',e,q]
  have one:∀b,ow' b≠none→ow b≠none:=fun b hb e=>hb (o0 b e)
  have hμ:∀id l,(idx ids id).isSome=true→μ id=some l→μ' (ρ id)=some l:=by
    intro id l hs e
    obtain ⟨j,hj⟩:=Option.isSome_iff_exists.1 hs
    have:=b8e hj
    simp [μ',ρ,hj,this,e]
  let μ2:Nat→Option Loc:=fun id=>if (idx ids id).isSome then μ id else none
  have h2:∀id l,μ2 id=some l→μ' (ρ id)=some l:=by
    intro id l e
    by_cases q:(idx ids id).isSome=true
    · exact hμ id l q (by simpa [μ2,q] using e)
    · simp [μ2,q] at e
  refine ⟨μ',ow',h.dfr,h.sz,fun t=> ?_,fun j bk e=> ?_,fun j hj=> ?_,fun b hb=>h.owl b (one b hb),fun b hb=>h.own b (one b hb),h.frm,fun id l e=> ?_⟩
  · obtain ⟨bl,r1,r2⟩:=h.env t
    show ∃bl,Rep w μ' (look t (s.env.map _)) _ bl∧_
    rw [d0z]
    have r1':Rep w μ2 (look t s.env) (a.tmps.getD t undef) bl:=Rep.only (p:=fun id=>(idx ids id).isSome) (fun id l hp e=>by simp only [μ2,hp,if_true];exact e) r1 (c8e he t)
    exact ⟨bl,Rep.ren (ρ:=ρ) h2 r1',fun b hb=>(r2 b hb).mono2 (o0 b) (o1 b)⟩
  · have e' : (ids[j]?).map (fun id=>(s.O.getD id .dead).renM ρ)=some bk:=by rw [←List.getElem?_map];exact e
    rw [Option.map_eq_some_iff] at e'
    obtain ⟨id,hid,hbk⟩:=e'
    have hix:idx ids id=some j:=c6f hn hid
    cases hO:s.O[id]? with
    | none=>
      rw [List.getD_eq_getElem?_getD,hO] at hbk
      simp only [Option.getD_none] at hbk
      subst hbk
      trivial
    | some bk' =>
      rw [List.getD_eq_getElem?_getD,hO] at hbk
      simp only [Option.getD_some] at hbk
      have hblk:=h.blk id bk' hO
      have hbm:=hb id (List.mem_of_getElem? hid) bk' hO
      have key:∀xs k,(k.isMix=true→V.onlyL (fun id=>(idx ids id).isSome) xs=true)→b48 cx w μ ow s.vw id xs k→b48 cx w μ' ow' s.vw j (bif k.isMix then V.renL ρ xs else xs) k:=by
        intro xs k hk ⟨l,q1,q2,q3⟩
        have q1':μ' j=some l:=by simp [μ',hid,q1]
        have hlen:(bif k.isMix then V.renL ρ xs else xs).length=xs.length:=by
          cases k.isMix
          · rfl
          · rw [cond_true,c01,List.length_map]
        refine ⟨l,q1',by rw [hlen];exact q2,?_⟩
        rcases q3 with ⟨q3,q3'⟩ | ⟨q3,q4,bl2,q5,q6,q7⟩
        · refine .inl ⟨q3,?_⟩
          subst q3'
          cases k.isMix
          · rfl
          · rw [cond_true,V.renL]
        · refine .inr ⟨q3,oin _ _ _ _ q4 hix,bl2,?_,?_,fun hne e=>q7 hne (List.length_eq_zero_iff.1 (by rw [←hlen,e];rfl))⟩
          · cases k with
            | flat | thin | deep | shal=>exact q5
            | mix | part=>
              obtain ⟨c1,c2,c3,c,t,vs,c4,c5,c6,c7,c8⟩:=q5
              refine ⟨c1,c2,?_,c,t,vs,c4,c5,?_,c7,c8⟩
              · intro x hx
                have hx':x∈V.renL ρ xs:=hx
                rw [c01] at hx'
                obtain ⟨y,hy,rfl⟩:=List.mem_map.1 hx'
                rw [d21,List.length_map];exact c3 y hy
              · show RepL w μ' ((V.renL ρ xs).flatMap V.cells) vs bl2
                rw [f1i]
                have c6':RepL w μ (xs.flatMap V.cells) vs bl2:=c6
                exact RepL.ren (ρ:=ρ) h2 (RepL.only (p:=fun id=>(idx ids id).isSome) (μ':=μ2) (fun id l hp e=>by simp only [μ2,hp,if_true];exact e) c6' (c9w (hk rfl)))
          · cases k with
            | flat | thin=>exact q6
            | deep | part=>exact ⟨q6.1,fun b hb=>oin _ _ _ _ (q6.2 b hb) hix⟩
            | shal | mix=>exact fun b hb=>(q6 b hb).mono2 (o0 b) (o1 b)
      subst hbk
      cases bk' with
      | dead=>trivial
      | arr xs k=>exact key xs k (fun q=>by simpa [Blk.onlyM,q] using hbm) hblk
      | box x k=>
        have:=key [x] k (fun q=>by simpa [Blk.onlyM,q,V.onlyL] using hbm) hblk
        show b48 cx w μ' ow' s.vw j [bif k.isMix then V.ren ρ x else x] k
        cases hq:k.isMix with
        | false=>rw [hq] at this;exact this
        | true=>rw [hq,cond_true,V.renL,V.renL] at this;exact this
  · have:ids[j]? =none:=List.getElem?_eq_none (by simpa [St.compM] using hj)
    simp [μ',this]
  · have hlt:id < m:=by
      rcases Nat.lt_or_ge id m with q | q
      · exact q
      · rw [hmu id q] at e;cases e
    have:=h.mu id l e
    simp [μ',hm id hlt,this]
theorem c3w {m:Nat} {s s':St} (ks ids:List Nat) (hn:ids.Nodup) (hm:∀j,j < m→ids[j]? =some j) (he:∀p∈(s.keep ks).env,p.2.only (fun id=>(idx ids id).isSome)=true)
    (hb:∀id∈ids,∀bk,s.O[id]? =some bk→bk.onlyM (fun id=>(idx ids id).isSome)=true) (e:(s.keep ks).compM ids=s'):b5i m s s':=
  e ▸ b1i (b0f ks s) (d8p ids hn hm he hb)
theorem RepL.len {w:World} {μ:Nat→Option Loc}:∀{xs:List V} {vs:List Value} {bl:List Nat},RepL w μ xs vs bl→vs.length=xs.length
  | _,_,_,.nil=>rfl
  | _,_,_,.cons v x bl vs xs bl' h ht=>by rw [List.length_cons,List.length_cons,RepL.len ht]
def c1p (m:Nat) (v:V):List Nat:=(b9r v).filter fun id=>Nat.ble m id
theorem f5x {m:Nat} {s:St} {v r:V} {O':List Blk} (h2:v.only (fun id=>Nat.blt id m || (idx (c1p m v) id).isSome)=true) (h3:(c1p m v).Nodup) (hm:m≤s.O.length)
    (h4:v.ren (c1g m (c1p m v))=r) (h5:s.O.take m++(c1p m v).map (fun id=>s.O.getD id .dead)=O') (h6:∀bk∈O',bk.kindIs (fun k=>k != .shal && k.nm)=true) (h7:v.clean=true):b9l m s v r O':=by
  subst h4 h5
  unfold b9l
  refine ⟨⟨h2,h3,hm⟩,rfl,rfl,fun bk hb=> ?_,.inr ⟨h7,h6⟩⟩
  have:=h6 bk hb
  cases bk with
  | dead=>simp [Blk.kindIs] at this⊢
  | arr xs k=>cases k<;>simp_all [Blk.kindIs,Kd.nm]
  | box x k=>cases k<;>simp_all [Blk.kindIs,Kd.nm]
theorem c8k (id n j:Nat):rho [id] n (j+1)=n+j:=by simp [rho]
theorem f68 (i j k n:Nat):rho [i,j,k] n 0=i:=rfl
theorem f6t (i j k n:Nat):rho [i,j,k] n 1=j:=rfl
theorem f7i (i j k n:Nat):rho [i,j,k] n 2=k:=rfl
theorem f61 (i j k n m:Nat):rho [i,j,k] n (m+3)=n+m:=by
  rw [rho,if_neg (by simp)];simp
theorem c0x {P:Program} {s:St} {f:FuncId} {args args':List V} {r:V} {K:V→Prop} {G:Prop} (hc:G→Con P f args' [] r []) (ht:b1l s [] args=some args')
    (hr:r.only (fun _=>false)=true) (hcl:r.clean=true) (hk:K r):∃r,(G→c1y P s f [] args fun v s'=>v=r∧s'={s with O:=s.O++[]})∧K r:=
  ⟨r,fun g=>b4a (hc g) ht (.inl ⟨hcl,by simp⟩) ⟨b9m (by simp) hr,rfl⟩,hk⟩
theorem f0u {P:Program} {L:b5h} {m:Nat} {Q:AEx→St→Prop} {s:St} {x y:Code} {S:St} (h1:∀Q':AEx→St→Prop,(∀s,b5i m s S→Q' .normal s)→(∀i s,Q (.exit i) s→Q' (.exit i) s)→(∀s,Q .ret s→Q' .ret s)→awp P L m x Q' s)
    (h2:awp P L m y Q S):awp P L m (.seq x y) Q s:=
  b0c fun Q' hn he hr=>h1 Q' (fun s hw=>hn s S hw h2) he hr
theorem f1r {P:Program} {L:b5h} {m:Nat} {Q:AEx→St→Prop} {s:St} {x y:Code} {A:Type} (S:A→St) (ok:A→Prop)
    (h1:∀Q':AEx→St→Prop,(∀p s,ok p→b5i m s (S p)→Q' .normal s)→(∀i s,Q (.exit i) s→Q' (.exit i) s)→(∀s,Q .ret s→Q' .ret s)→awp P L m x Q' s)
    (h2:∀p,ok p→awp P L m y Q (S p)):awp P L m (.seq x y) Q s:=
  b0c fun Q' hn he hr=>h1 Q' (fun p s hok hw=>hn s (S p) hw (h2 p hok)) he hr
theorem b4y {P:Program} {L:b5h} {m:Nat} {Q:AEx→St→Prop} {s:St} {id:Nat} {ops:Array Oper} {y:Code} (ks:List Nat)
    (h:∀K:St→Prop,(∀s,awp P L m y Q (s.keep ks)→K s)→d7f P L ops K ops.toList s):awp P L m (.seq (.region id ops false) y) Q s:=
  b0c fun _ hn _ _=>b4c fun K k=>h K fun s q=>k s (hn s (s.keep ks) (b0f ks s) q)
theorem d3c {P:Program} {s:St} {f:FuncId} {args args':List V} {bk bk2:Blk} {R:V→List Blk→Prop} {K:V→St→Prop} (i j:Nat) (hc:d94 P f args' [bk,bk2] R) (ht:b1l s [i,j] args=some args')
    (hO:s.O[i]? =some bk) (hO2:s.O[j]? =some bk2) (hn:i≠j) (hbk:(bk.kindIs (fun k=>k.nm)=true∧bk≠.dead)∧(bk2.kindIs (fun k=>k.nm)=true∧bk2≠.dead)) (hv:s.vw=false)
    (h:∀r O',R r O'→∃b1 b2 O1,O'=b1::b2::O1∧((r.clean=true∧∀b∈O',b.kindIs (fun k=>k != .shal && k.nm)=true)∨(∀x∈args,x.coldIn [i,j]=true))∧K (r.ren (rho [i,j] s.O.length)) {s with O:=(s.O.set i b1).set j b2++O1}):c1y P s f [i,j] args K:=
  ⟨s.O,.inl rfl,args',[bk,bk2],R,ht,by simp [hO,hO2],by simp [hn],by
    intro b hb
    rcases List.mem_cons.1 hb with rfl | hb
    · exact hbk.1
    · rw [List.mem_singleton] at hb;subst hb;exact hbk.2,.inl hv,hc,fun r O' hR=>by
    obtain ⟨b1,b2,O1,e,h1,h2⟩:=h r O' hR
    subst e
    exact ⟨h1,by simpa [b3x] using h2⟩⟩
theorem f6q (i j n m:Nat):rho [i,j] n (m+2)=n+m:=by
  rw [rho,if_neg (by simp)];simp
theorem f66 (i j n:Nat):rho [i,j] n 0=i:=rfl
theorem f7e (i j n:Nat):rho [i,j] n 1=j:=rfl
end Go.Vm
namespace Go.Vm
open Go Go.RowKit
theorem c92 {w:World} {l1 l2:List (Nat×(Array Value→Prop))} (h1:c9i w l1) (h2:c9i w l2):c9i w (l1++l2):=fun p hp=>(List.mem_append.1 hp).elim (h1 p) (h2 p)
theorem c2c {P:Program} {n:String} {q:Array Value→Prop} {w:World} (h:P.globalNamed n=none):c9i w (f14 P n q):=by
  intro p hp
  unfold f14 at hp
  rw [h] at hp;cases hp
theorem f0l {P:Program} (h:P.globalNamed "internal/strconv.uint64pow10" =none) (h1:P.globalNamed "strconv.ErrSyntax" =none) (h2:P.globalNamed "strconv.ErrRange" =none) {w:World}:c9i w (b9z P):=
  c92 (c2c h) (c92 (c2c h1) (c2c h2))
end Go.Vm
namespace Go.Vm
open Go
structure Tys (p:Prop):Prop where
  h:p
structure Fc (p:Prop):Prop where
  h:p
structure Ho (p:Prop):Prop where
  h:p
structure Sd (p:Prop):Prop where
  h:p
theorem f7f {xs:List V} {i n:Nat} {y:V} (h:∀x∈xs,x.cells.length=n) (hy:y.cells.length=n):∀x∈xs.set i y,x.cells.length=n:=by
  intro x hx
  rcases List.mem_or_eq_of_mem_set hx with q | q
  · exact h x q
  · rw [q];exact hy
theorem gdm {α:Type} {l:List α} {i:Nat} {x:α} (h:l[i]? =some x):∀f:α→V,(l.map f).getD i .any=f x:=fun _=>b7z h
theorem ai {a b:Prop} (h:a) (k:b):a∧b:=⟨h,k⟩
theorem b4o {A B:Prop} (b:B) (a:A:=by first | omega | (intros;omega) | (exact f3g (fun _=>rfl) rfl) | (exact f7f (fun x hx=>by obtain ⟨t,_,rfl⟩:=List.mem_map.1 hx;rfl) rfl) | (have q:=‹Sd _›;exact q.h _) | (intros;simp_all;done) | (intros;simp_all;omega)):A∧B:=⟨a,b⟩
theorem f3t {A B:Prop} (b:B) (a:A:=by first | rfl | (intros;simp_all;done)):A∧B:=⟨a,b⟩
theorem rta {m:Nat} {s:St} {v r:V} {O':List Blk} (h2:v.only (fun id=>Nat.blt id m || (idx (c1p m v) id).isSome)=true:=by rfl) (h3:(c1p m v).Nodup:=by first | decide | simp [c1p,b9r,d15,d1n]) (hm:m≤s.O.length:=by simp)
    (h4:v.ren (c1g m (c1p m v))=r:=by rfl) (h5:s.O.take m++(c1p m v).map (fun id=>s.O.getD id .dead)=O':=by simp [c1p,b9r,d15,d1n]) (h6:∀bk∈O',bk.kindIs (fun k=>k != .shal && k.nm)=true:=by simp [Blk.kindIs,b2g]) (h7:v.clean=true:=by rfl):b9l m s v r O':=f5x h2 h3 hm h4 h5 h6 h7
theorem b6e {P:Program} {L:b5h} {s:St} {rg:Array Oper} {K:St→Prop} {o:Oper} {rest:List Oper} {d j:Nat} {want:Bool} (hd:o.dst=some d) (hn:Nat.blt d s.n=true) (hg:o.guard=some (j,want)) (hv:b1o s rg j want=some false) (h:d7f P L rg K rest (s.set (some d) (.opt false .any))):d7f P L rg K (o::rest) s:=
  f64 d j want hd (by rwa [Nat.blt_eq] at hn) hg hv h
theorem f4z {A B:Prop} (b:Ho B) (e:Ho B→A:=by
  intro b
  refine b5v ?_
  intro K k
  simp only [zE,zS,zO,zN,b03,b0w,b0m,Nat.reduceEqDiff,reduceIte,Nat.reduceLT,implies_true,forall_const,reduceCtorEq,V.ofValue,V.ofScalar,V.un,V.gd,b1k,aop,Nat.reduceAdd,Value.oneCell',V.isVal,V.cells,b4i,b2k,V.noSl,V.noRef,List.all_cons,List.all_nil,List.map_cons,List.map_nil,gt_iff_lt,Nat.reduceLeDiff,Nat.reduceMul,b00,‹Tys _›.h,‹Fc _›.h]
  repeat (refine b4o ?_)
  refine k _ ?_
  clear k K
  exact b.h):A:=e b
theorem d52 {A B:Prop} (b:Ho B) (e:Ho B→A:=by
  intro b
  refine b5v ?_
  intro K k
  simp only [zE,zL,zO,zN,b03,b0w,b0m,Nat.reduceEqDiff,reduceIte,Nat.reduceLT,implies_true,forall_const,reduceCtorEq,V.ofValue,V.ofScalar,V.un,V.gd,b1k,aop,c4r,beq_self_eq_true,List.nodup_cons,List.mem_singleton,forall_eq',List.size_toArray,List.getD_eq_getElem?_getD,Array.getD_eq_getD_getElem?,Option.getD_some,b6t,c6h,c5r,b3o,b92,b10,b2p,b1j,Blk.row,b4e,V.isSub,V.noSl,Value.cells,Option.toList,List.forall_mem_map,List.length_map,List.all_cons,List.all_nil,List.isEmpty_nil,List.isEmpty_cons,List.not_mem_nil,List.nodup_nil,c4o,d1a,c3t,c9q,c9a,b85,c09,List.mem_cons,or_false,forall_eq_or_imp,forall_eq,List.set_cons_zero,List.set_cons_succ,List.length_append,Go.Vm.V.cells,Nat.reduceAdd,Nat.reduceLeDiff,Nat.reduceMul,b00,Value.oneCell',‹Tys _›.h,‹Fc _›.h]
  repeat (refine b4o ?_)
  refine k _ ?_
  clear k K
  exact b.h):A:=e b
theorem b30 {A B:Prop} (b:Ho B) (e:Ho B→A:=by
  intro b
  refine b5v ?_
  intro K k
  simp only [zE,zS,b03,b0w,b0m,Nat.reduceEqDiff,reduceIte,Nat.reduceLT,implies_true,forall_const,reduceCtorEq,V.ofValue,V.ofScalar,V.un,V.gd,b1k,aop,Nat.reduceAdd,b00,Value.oneCell',List.all_cons,List.all_nil,Bool.and_self,‹Tys _›.h,‹Fc _›.h]
  repeat (refine b4o ?_)
  refine k _ ?_
  clear k K
  exact b.h):A:=e b
theorem f46 {A B:Prop} (b:Ho B) (e:Ho B→A:=by
  intro b
  refine b5v ?_
  intro K k
  simp only [zE,b03,b0w,b0m,Nat.reduceEqDiff,reduceIte,Nat.reduceLT,implies_true,forall_const,reduceCtorEq,V.ofValue,V.ofScalar,V.un,V.gd,b1k,aop,d18,c1x,or_true,true_or,or_false,false_or,EK.fitsL,EK.fits,b4m,b6u,b00,Value.oneCell',List.all_cons,List.all_nil,Bool.and_self,‹Tys _›.h,‹Fc _›.h]
  repeat (refine b4o ?_)
  refine k _ ?_
  clear k K
  exact b.h):A:=e b
theorem d49 {A B:Prop} (b:Ho B) (e:Ho B→A:=by
  intro b
  refine b5v ?_
  intro K k
  simp only [zE,b03,b0w,b0m,Nat.reduceEqDiff,reduceIte,Nat.reduceLT,implies_true,forall_const,reduceCtorEq,V.ofValue,V.ofScalar,V.un,V.gd,b1k,aop,d18,c1x,or_true,true_or,or_false,false_or,EK.fitsL,EK.fits,b4m,b6u,b00,Value.oneCell',List.all_cons,List.all_nil,Bool.and_self,‹Tys _›.h,‹Fc _›.h]
  try simp (disch:=omega) only [c8n]
  repeat (refine b4o ?_)
  refine k _ ?_
  clear k K
  exact b.h):A:=e b
theorem c4v {A B:Prop} (b:Ho B) (e:Ho B→A:=by
  intro b
  first
  | refine b6e rfl rfl rfl ?_ ?_
    · first | rfl | (simp only [zV,b1o,Nat.reduceEqDiff,reduceIte];done)
    simp only [zW,b0m,Nat.reduceEqDiff,reduceIte]
  | skip
    refine b5v ?_
    intro K k
    simp only [zE,zG,b03,b0w,b0m,Nat.reduceEqDiff,reduceIte,Nat.reduceLT,implies_true,forall_const,reduceCtorEq,V.ofValue,V.ofScalar,V.un,V.gd,b1o,V.wrap,b1k,aop,d18,c1x,or_true,true_or,or_false,false_or,EK.fitsL,EK.fits,b4m,b6u,b00,Value.oneCell',List.all_cons,List.all_nil,Bool.and_self,‹Tys _›.h,‹Fc _›.h]
    repeat (refine b4o ?_)
    refine k _ ?_
    clear k K
  exact b.h):A:=e b
theorem f35 {A B:Prop} (b:Ho B) (e:Ho B→A:=by
  intro b
  first
  | refine b6e rfl rfl rfl ?_ ?_
    · first | rfl | (simp only [zV,b1o,Nat.reduceEqDiff,reduceIte];done)
    simp only [zW,b0m,Nat.reduceEqDiff,reduceIte]
  | skip
    refine b5v ?_
    intro K k
    simp only [zE,zG,b03,b0w,b0m,Nat.reduceEqDiff,reduceIte,Nat.reduceLT,implies_true,forall_const,reduceCtorEq,V.ofValue,V.ofScalar,V.un,V.gd,b1o,V.wrap,b1k,aop,d18,c1x,or_true,true_or,or_false,false_or,EK.fitsL,EK.fits,b4m,b6u,b00,Value.oneCell',List.all_cons,List.all_nil,Bool.and_self,‹Tys _›.h,‹Fc _›.h]
    try simp (disch:=omega) only [c8n]
    repeat (refine b4o ?_)
    refine k _ ?_
    clear k K
  exact b.h):A:=e b
theorem f8p {A B:Prop} (b:Ho B) (e:Ho B→A:=by
  intro b
  refine b5v ?_
  intro K k
  simp only [zE,zS,zO,zN,b03,b0w,b0m,Nat.reduceEqDiff,reduceIte,Nat.reduceLT,implies_true,forall_const,reduceCtorEq,V.ofValue,V.ofScalar,V.un,V.gd,b1k,aop,Nat.reduceAdd,V.isVal,V.cells,b4i,b2k,V.noSl,V.noRef,List.all_cons,List.all_nil,List.length_map,gt_iff_lt,Nat.reduceLeDiff,Nat.reduceMul,b00,Value.oneCell',‹Tys _›.h,‹Fc _›.h]
  repeat (refine b4o ?_)
  refine k _ ?_
  clear k K
  exact b.h):A:=e b
theorem f0r {A B:Prop} (b:Ho B) (e:Ho B→A:=by
  intro b
  refine b5v ?_
  intro K k
  simp only [zE,zL,zO,zN,b03,b0w,b0m,Nat.reduceEqDiff,reduceIte,Nat.reduceLT,implies_true,forall_const,reduceCtorEq,V.ofValue,V.ofScalar,V.un,V.gd,b1k,aop,c8d,if_true,Nat.zero_mul,Nat.one_mul,Nat.mul_one,V.isVal,V.cells,List.mem_cons,List.not_mem_nil,or_false,forall_eq_or_imp,forall_eq,Nat.reduceAdd,Nat.reduceLeDiff,Nat.reduceMul,b00,Value.oneCell',List.all_cons,List.all_nil,‹Tys _›.h,‹Fc _›.h]
  repeat (refine b4o ?_)
  refine k _ ?_
  clear k K
  exact b.h):A:=e b
theorem b9d {A B:Prop} (b:Ho B) (e:Ho B→A:=by
  intro b
  refine b5v ?_
  intro K k
  simp only [zE,zO,zN,b03,b0w,b0m,Nat.reduceEqDiff,reduceIte,Nat.reduceLT,implies_true,forall_const,reduceCtorEq,V.ofValue,V.ofScalar,V.un,V.gd,b1k,aop,b7w,f7t,f7l,f7q,f7s,f7o,f7p,f7n,f7r,f7m,f7k,f4f,f37,f4k,List.map_cons,List.map_nil,List.all_cons,List.all_nil,V.isVal,V.cells,b35,b00,b2k,V.noRef,V.noSl,List.mem_cons,List.not_mem_nil,or_false,forall_eq_or_imp,forall_eq,if_true,Option.isSome_some,List.length_cons,List.length_nil,Nat.reduceAdd,Nat.reduceLeDiff,Nat.reduceMul,Value.oneCell',‹Tys _›.h,‹Fc _›.h]
  repeat (refine b4o ?_)
  refine k _ ?_
  clear k K
  exact b.h):A:=e b
theorem c56 {A B:Prop} (b:Ho B) (e:Ho B→A:=by
  intro b
  refine b5v ?_
  intro K k
  simp only [zE,zL,zN,b03,b0w,b0m,Nat.reduceEqDiff,reduceIte,Nat.reduceLT,implies_true,forall_const,reduceCtorEq,V.ofValue,V.ofScalar,V.un,V.gd,b1k,aop,c5h,b1j,Blk.row,TypeDesc.slice.injEq,Nat.reduceAdd,Nat.reduceLeDiff,Nat.reduceMul,b00,Value.oneCell',List.all_cons,List.all_nil,Bool.and_self,‹Tys _›.h,‹Fc _›.h]
  repeat (refine b4o ?_)
  refine k _ ?_
  clear k K
  exact b.h):A:=e b
theorem f77 {A B:Prop} (b:Ho B) (e:Ho B→A:=by
  intro b
  refine b5v ?_
  intro K k
  simp only [zE,zL,zO,zN,b03,b0w,b0m,Nat.reduceEqDiff,reduceIte,Nat.reduceLT,implies_true,forall_const,reduceCtorEq,V.ofValue,V.ofScalar,V.un,V.gd,b1k,aop,c7q,c9j,c5r,b1j,Blk.row,c4o,c3t,c9a,c9q,c8i,List.set_cons_zero,List.set_cons_succ,List.forall_mem_map,List.length_map,Go.Vm.V.cells,V.noSl,List.size_toArray,List.getD_eq_getElem?_getD,Array.getD_eq_getD_getElem?,Option.getD_some,TypeDesc.slice.injEq,Nat.reduceAdd,Nat.reduceLeDiff,Nat.reduceMul,b00,Value.oneCell',List.all_cons,List.all_nil,‹Tys _›.h,‹Fc _›.h]
  repeat (refine b4o ?_)
  refine k _ ?_
  clear k K
  exact b.h):A:=e b
theorem b9j {A B:Prop} (b:Ho B) (e:Ho B→A:=by
  intro b
  refine b5v ?_
  intro K k
  simp only [zE,zL,zN,b03,b0w,b0m,Nat.reduceEqDiff,reduceIte,Nat.reduceLT,implies_true,forall_const,reduceCtorEq,V.ofValue,V.ofScalar,V.un,V.gd,b1k,aop,b9b,Nat.reduceAdd,Nat.reduceLeDiff,Nat.reduceMul,b00,Value.oneCell',List.all_cons,List.all_nil,Bool.and_self,‹Tys _›.h,‹Fc _›.h]
  repeat (refine b4o ?_)
  refine k _ ?_
  clear k K
  exact b.h):A:=e b
theorem c00 {A B:Prop} (b:Ho B) (e:Ho B→A:=by
  intro b
  refine b5v ?_
  intro K k
  simp only [zE,zL,zN,b03,b0w,b0m,Nat.reduceEqDiff,reduceIte,Nat.reduceLT,implies_true,forall_const,reduceCtorEq,V.ofValue,V.ofScalar,V.un,V.gd,b1k,aop,b3z,Nat.reduceAdd,Nat.reduceLeDiff,Nat.reduceMul,b00,Value.oneCell',List.all_cons,List.all_nil,Bool.and_self,‹Tys _›.h,‹Fc _›.h]
  repeat (refine b4o ?_)
  refine k _ ?_
  clear k K
  exact b.h):A:=e b
theorem c7t {A B:Prop} (b:Ho B) (e:Ho B→A:=by
  intro b
  first
  | refine b6e rfl rfl rfl ?_ ?_
    · first | rfl | (simp only [zV,b1o,Nat.reduceEqDiff,reduceIte];done)
    simp only [zW,b0m,Nat.reduceEqDiff,reduceIte]
  | skip
    refine b5v ?_
    intro K k
    simp only [zE,zL,zN,b03,b0w,b0m,Nat.reduceEqDiff,reduceIte,Nat.reduceLT,implies_true,forall_const,reduceCtorEq,V.ofValue,V.ofScalar,V.un,V.gd,b1o,V.wrap,b1k,aop,b3z,Nat.reduceAdd,Nat.reduceLeDiff,Nat.reduceMul,b00,Value.oneCell',List.all_cons,List.all_nil,Bool.and_self,‹Tys _›.h,‹Fc _›.h]
    repeat (refine b4o ?_)
    refine k _ ?_
    clear k K
  exact b.h):A:=e b
theorem f69 {A B:Prop} (b:Ho B) (e:Ho B→A:=by
  intro b
  refine b5v ?_
  intro K k
  simp only [zE,zL,zN,b03,b0w,b0m,Nat.reduceEqDiff,reduceIte,Nat.reduceLT,implies_true,forall_const,reduceCtorEq,V.ofValue,V.ofScalar,V.un,V.gd,b1k,aop,c1j,Int.toNat_natCast,Int.reduceToNat,Nat.reduceAdd,Nat.reduceLeDiff,Nat.reduceMul,b00,Value.oneCell',List.all_cons,List.all_nil,Bool.and_self,‹Tys _›.h,‹Fc _›.h]
  repeat (refine b4o ?_)
  refine k _ ?_
  clear k K
  exact b.h):A:=e b
theorem f54 {A B:Prop} (b:Ho B) (e:Ho B→A:=by
  intro b
  first
  | refine b6e rfl rfl rfl ?_ ?_
    · first | rfl | (simp only [zV,b1o,Nat.reduceEqDiff,reduceIte];done)
    simp only [zW,b0m,Nat.reduceEqDiff,reduceIte]
  | skip
    refine b5v ?_
    intro K k
    simp only [zE,zL,zN,b03,b0w,b0m,Nat.reduceEqDiff,reduceIte,Nat.reduceLT,implies_true,forall_const,reduceCtorEq,V.ofValue,V.ofScalar,V.un,V.gd,b1o,V.wrap,b1k,aop,c1j,Int.toNat_natCast,Int.reduceToNat,Nat.reduceAdd,Nat.reduceLeDiff,Nat.reduceMul,b00,Value.oneCell',List.all_cons,List.all_nil,Bool.and_self,‹Tys _›.h,‹Fc _›.h]
    repeat (refine b4o ?_)
    refine k _ ?_
    clear k K
  exact b.h):A:=e b
theorem b6a {A B:Prop} (b:Ho B) (e:Ho B→A:=by
  intro b
  refine b5v ?_
  intro K k
  simp only [zE,zL,zN,b03,b0w,b0m,Nat.reduceEqDiff,reduceIte,Nat.reduceLT,implies_true,forall_const,reduceCtorEq,V.ofValue,V.ofScalar,V.un,V.gd,b1k,aop,List.mem_cons,List.not_mem_nil,or_false,forall_eq_or_imp,forall_eq,b31,b1j,Blk.row,Go.Vm.V.cells,List.forall_mem_map,List.length_map,Int.toNat_natCast,Int.reduceToNat,TypeDesc.slice.injEq,Nat.reduceAdd,Nat.reduceLeDiff,Nat.reduceMul,b00,Value.oneCell',List.all_cons,List.all_nil,Bool.and_self,‹Tys _›.h,‹Fc _›.h]
  repeat (refine b4o ?_)
  refine k _ ?_
  clear k K
  exact b.h):A:=e b
theorem d5d {A B:Prop} (b:Ho B) (e:Ho B→A:=by
  intro b
  first
  | refine b6e rfl rfl rfl ?_ ?_
    · first | rfl | (simp only [zV,b1o,Nat.reduceEqDiff,reduceIte];done)
    simp only [zW,b0m,Nat.reduceEqDiff,reduceIte]
  | skip
    refine b5v ?_
    intro K k
    simp only [zE,zL,zN,b03,b0w,b0m,Nat.reduceEqDiff,reduceIte,Nat.reduceLT,implies_true,forall_const,reduceCtorEq,V.ofValue,V.ofScalar,V.un,V.gd,b1o,V.wrap,b1k,aop,List.mem_cons,List.not_mem_nil,or_false,forall_eq_or_imp,forall_eq,b31,b1j,Blk.row,Go.Vm.V.cells,List.forall_mem_map,List.length_map,Int.toNat_natCast,Int.reduceToNat,TypeDesc.slice.injEq,Nat.reduceAdd,Nat.reduceLeDiff,Nat.reduceMul,b00,Value.oneCell',List.all_cons,List.all_nil,Bool.and_self,‹Tys _›.h,‹Fc _›.h]
    repeat (refine b4o ?_)
    refine k _ ?_
    clear k K
  exact b.h):A:=e b
theorem f75 {A B:Prop} (b:Ho B) (e:Ho B→A:=by
  intro b
  refine b5v ?_
  intro K k
  simp only [zE,zL,zN,b03,b0w,b0m,Nat.reduceEqDiff,reduceIte,Nat.reduceLT,implies_true,forall_const,reduceCtorEq,V.ofValue,V.ofScalar,V.un,V.gd,b1k,aop,List.length_map,f3e,c3e,b1j,Blk.row,List.size_toArray,List.getD_eq_getElem?_getD,Array.getD_eq_getD_getElem?,Option.getD_some,Nat.reduceAdd,Nat.reduceLeDiff,Nat.reduceMul,b00,Value.oneCell',List.all_cons,List.all_nil,Bool.and_self,‹Tys _›.h,‹Fc _›.h]
  repeat (refine b4o ?_)
  refine k _ ?_
  clear k K
  exact b.h):A:=e b
theorem f6d {A B:Prop} (b:Ho B) (e:Ho B→A:=by
  intro b
  first
  | refine b6e rfl rfl rfl ?_ ?_
    · first | rfl | (simp only [zV,b1o,Nat.reduceEqDiff,reduceIte];done)
    simp only [zW,b0m,Nat.reduceEqDiff,reduceIte]
  | skip
    refine b5v ?_
    intro K k
    simp only [zE,zL,zN,b03,b0w,b0m,Nat.reduceEqDiff,reduceIte,Nat.reduceLT,implies_true,forall_const,reduceCtorEq,V.ofValue,V.ofScalar,V.un,V.gd,b1o,V.wrap,b1k,aop,List.length_map,f3e,c3e,b1j,Blk.row,List.size_toArray,List.getD_eq_getElem?_getD,Array.getD_eq_getD_getElem?,Option.getD_some,Nat.reduceAdd,Nat.reduceLeDiff,Nat.reduceMul,b00,Value.oneCell',List.all_cons,List.all_nil,Bool.and_self,‹Tys _›.h,‹Fc _›.h]
    repeat (refine b4o ?_)
    refine k _ ?_
    clear k K
  exact b.h):A:=e b
theorem d5j {A B:Prop} (b:Ho B) (e:Ho B→A:=by
  intro b
  refine b5v ?_
  intro K k
  simp only [zE,zL,zO,zN,b03,b0w,b0m,Nat.reduceEqDiff,reduceIte,Nat.reduceLT,implies_true,forall_const,reduceCtorEq,V.ofValue,V.ofScalar,V.un,V.gd,b1k,aop,b8g,b1j,Blk.row,b9y,Go.Vm.part,V.cells,V.noSl,V.noRef,Nat.reduceAdd,Nat.reduceLeDiff,Nat.reduceMul,b00,Value.oneCell',List.all_cons,List.all_nil,‹Tys _›.h,‹Fc _›.h]
  repeat (refine b4o ?_)
  refine k _ ?_
  clear k K
  exact b.h):A:=e b
theorem f0t {A B:Prop} (b:Ho B) (e:Ho B→A:=by
  intro b
  first
  | refine b6e rfl rfl rfl ?_ ?_
    · first | rfl | (simp only [zV,b1o,Nat.reduceEqDiff,reduceIte];done)
    simp only [zW,b0m,Nat.reduceEqDiff,reduceIte]
  | skip
    refine b5v ?_
    intro K k
    simp only [zE,zL,zO,zN,b03,b0w,b0m,Nat.reduceEqDiff,reduceIte,Nat.reduceLT,implies_true,forall_const,reduceCtorEq,V.ofValue,V.ofScalar,V.un,V.gd,b1o,V.wrap,b1k,aop,b8g,b1j,Blk.row,b9y,Go.Vm.part,V.cells,V.noSl,V.noRef,Nat.reduceAdd,Nat.reduceLeDiff,Nat.reduceMul,b00,Value.oneCell',List.all_cons,List.all_nil,‹Tys _›.h,‹Fc _›.h]
    repeat (refine b4o ?_)
    refine k _ ?_
    clear k K
  exact b.h):A:=e b
theorem f0w {A B:Prop} (b:Ho B) (e:Ho B→A:=by
  intro b
  refine b5v ?_
  intro K k
  simp only [zE,zL,b03,b0w,b0m,Nat.reduceEqDiff,reduceIte,Nat.reduceLT,implies_true,forall_const,reduceCtorEq,V.ofValue,V.ofScalar,V.un,V.gd,b1k,aop,b00,Value.oneCell',List.all_cons,List.all_nil,Bool.and_self,‹Tys _›.h,‹Fc _›.h]
  repeat (refine b4o ?_)
  refine k _ ?_
  clear k K
  exact b.h):A:=e b
theorem d9a {A B:Prop} (b:Ho B) (e:Ho B→A:=by
  intro b
  first
  | refine b6e rfl rfl rfl ?_ ?_
    · first | rfl | (simp only [zV,b1o,Nat.reduceEqDiff,reduceIte];done)
    simp only [zW,b0m,Nat.reduceEqDiff,reduceIte]
  | skip
    refine b5v ?_
    intro K k
    simp only [zE,zL,b03,b0w,b0m,Nat.reduceEqDiff,reduceIte,Nat.reduceLT,implies_true,forall_const,reduceCtorEq,V.ofValue,V.ofScalar,V.un,V.gd,b1o,V.wrap,b1k,aop,b00,Value.oneCell',List.all_cons,List.all_nil,Bool.and_self,‹Tys _›.h,‹Fc _›.h]
    repeat (refine b4o ?_)
    refine k _ ?_
    clear k K
  exact b.h):A:=e b
theorem d8b {A B:Prop} (b:Ho B) (e:Ho B→A:=by
  intro b
  refine b5v ?_
  intro K k
  simp only [zE,zL,zO,zN,b03,b0w,b0m,Nat.reduceEqDiff,reduceIte,Nat.reduceLT,implies_true,forall_const,reduceCtorEq,V.ofValue,V.ofScalar,V.un,V.gd,b1k,aop,b35,V.isVal,V.cells,V.noRef,V.noSl,Int.toNat_natCast,Nat.reduceAdd,Nat.reduceLeDiff,Nat.reduceMul,b00,Value.oneCell',List.all_cons,List.all_nil,‹Tys _›.h,‹Fc _›.h]
  repeat (refine b4o ?_)
  refine k _ ?_
  clear k K
  exact b.h):A:=e b
theorem f8r {A B:Prop} (b:Ho B) (e:Ho B→A:=by
  intro b
  refine b5v ?_
  intro K k
  simp only [zE,b03,b0w,b0m,Nat.reduceEqDiff,reduceIte,Nat.reduceLT,implies_true,forall_const,reduceCtorEq,V.ofValue,V.ofScalar,V.un,V.gd,b1k,aop,b8i,List.mem_cons,List.not_mem_nil,or_false,forall_eq_or_imp,forall_eq,List.map_cons,List.map_nil,if_true,if_false,b00,Value.oneCell',List.all_cons,List.all_nil,Bool.and_self,‹Tys _›.h,‹Fc _›.h]
  repeat (refine b4o ?_)
  refine k _ ?_
  clear k K
  exact b.h):A:=e b
theorem b6n {A B:Prop} (b:Ho B) (e:Ho B→A:=by
  intro b
  refine b5v ?_
  intro K k
  simp only [zE,b03,b0w,b0m,Nat.reduceEqDiff,reduceIte,Nat.reduceLT,implies_true,forall_const,reduceCtorEq,V.ofValue,V.ofScalar,V.un,V.gd,b1k,aop,b00,Value.oneCell',List.all_cons,List.all_nil,Bool.and_self,‹Tys _›.h,‹Fc _›.h]
  repeat (refine b4o ?_)
  refine k _ ?_
  clear k K
  exact b.h):A:=e b
theorem d6s {A B:Prop} (b:Ho B) (e:Ho B→A:=by
  intro b
  first
  | refine b6e rfl rfl rfl ?_ ?_
    · first | rfl | (simp only [zV,b1o,Nat.reduceEqDiff,reduceIte];done)
    simp only [zW,b0m,Nat.reduceEqDiff,reduceIte]
  | skip
    refine b5v ?_
    intro K k
    simp only [zE,zG,b03,b0w,b0m,Nat.reduceEqDiff,reduceIte,Nat.reduceLT,implies_true,forall_const,reduceCtorEq,V.ofValue,V.ofScalar,V.un,V.gd,b1o,V.wrap,b1k,aop,b00,Value.oneCell',List.all_cons,List.all_nil,Bool.and_self,‹Tys _›.h,‹Fc _›.h]
    repeat (refine b4o ?_)
    refine k _ ?_
    clear k K
  exact b.h):A:=e b
theorem c7n {A B:Prop} (b:Ho B) (e:Ho B→A:=by
  intro b
  refine b5v ?_
  intro K k
  simp only [zE,b03,b0w,b0m,Nat.reduceEqDiff,reduceIte,Nat.reduceLT,implies_true,forall_const,reduceCtorEq,V.ofValue,V.ofScalar,V.un,V.gd,b1k,aop,b00,Value.oneCell',List.all_cons,List.all_nil,Bool.and_self,‹Tys _›.h,‹Fc _›.h]
  repeat (refine b4o ?_)
  refine k _ ?_
  clear k K
  exact b.h):A:=e b
theorem d8h {A B:Prop} (b:Ho B) (e:Ho B→A:=by
  intro b
  first
  | refine b6e rfl rfl rfl ?_ ?_
    · first | rfl | (simp only [zV,b1o,Nat.reduceEqDiff,reduceIte];done)
    simp only [zW,b0m,Nat.reduceEqDiff,reduceIte]
  | skip
    refine b5v ?_
    intro K k
    simp only [zE,zG,b03,b0w,b0m,Nat.reduceEqDiff,reduceIte,Nat.reduceLT,implies_true,forall_const,reduceCtorEq,V.ofValue,V.ofScalar,V.un,V.gd,b1o,V.wrap,b1k,aop,b00,Value.oneCell',List.all_cons,List.all_nil,Bool.and_self,‹Tys _›.h,‹Fc _›.h]
    repeat (refine b4o ?_)
    refine k _ ?_
    clear k K
  exact b.h):A:=e b
theorem c81 {A B:Prop} (b:Ho B) (e:Ho B→A:=by
  intro b
  refine b5v ?_
  intro K k
  simp only [zE,zP,b03,b0w,b0m,Nat.reduceEqDiff,reduceIte,Nat.reduceLT,implies_true,forall_const,reduceCtorEq,V.ofValue,V.ofScalar,V.un,V.gd,b1k,aop,d3h,b00,Value.oneCell',List.all_cons,List.all_nil,Bool.and_self,‹Tys _›.h,‹Fc _›.h]
  repeat (refine b4o ?_)
  refine k _ ?_
  clear k K
  exact b.h):A:=e b
theorem f5c {A B:Prop} (b:Ho B) (e:Ho B→A:=by
  intro b
  first
  | refine b6e rfl rfl rfl ?_ ?_
    · first | rfl | (simp only [zV,b1o,Nat.reduceEqDiff,reduceIte];done)
    simp only [zW,b0m,Nat.reduceEqDiff,reduceIte]
  | skip
    refine b5v ?_
    intro K k
    simp only [zE,zP,zG,b03,b0w,b0m,Nat.reduceEqDiff,reduceIte,Nat.reduceLT,implies_true,forall_const,reduceCtorEq,V.ofValue,V.ofScalar,V.un,V.gd,b1o,V.wrap,b1k,aop,d3h,b00,Value.oneCell',List.all_cons,List.all_nil,Bool.and_self,‹Tys _›.h,‹Fc _›.h]
    repeat (refine b4o ?_)
    refine k _ ?_
    clear k K
  exact b.h):A:=e b
theorem f7c {A B:Prop} (b:Ho B) (e:Ho B→A:=by
  intro b
  refine b5v ?_
  intro K k
  simp only [zE,zL,zN,b03,b0w,b0m,Nat.reduceEqDiff,reduceIte,Nat.reduceLT,implies_true,forall_const,reduceCtorEq,V.ofValue,V.ofScalar,V.un,V.gd,b1k,aop,List.set_cons_zero,List.set_cons_succ,b9x,forall_eq',b6v,c0y,Option.map_none,Option.isNone_none,b1j,Blk.row,TypeDesc.slice.injEq,List.forall_mem_map,List.length_map,Go.Vm.V.cells,Int.toNat_natCast,Int.reduceToNat,←List.map_take,←List.map_drop,List.take_length,Nat.reduceAdd,Nat.reduceLeDiff,Nat.reduceMul,b00,Value.oneCell',List.all_cons,List.all_nil,Bool.and_self,‹Tys _›.h,‹Fc _›.h]
  repeat (refine b4o ?_)
  refine k _ ?_
  clear k K
  exact b.h):A:=e b
theorem f41 {A B:Prop} (b:Ho B) (e:Ho B→A:=by
  intro b
  refine b5v ?_
  intro K k
  simp only [zE,zS,zJ,zL,zO,zN,b03,b0w,b0m,Nat.reduceEqDiff,reduceIte,Nat.reduceLT,implies_true,forall_const,reduceCtorEq,V.ofValue,V.ofScalar,V.un,V.gd,b1k,aop,b8f,b17,V.isVal,V.cells,b4i,b2k,V.noSl,V.noRef,gt_iff_lt,Nat.reduceAdd,Nat.reduceLeDiff,Nat.reduceMul,b92,b10,b2p,b1j,Blk.row,b4e,Nat.reduceBEq,c8i,b00,Value.oneCell',‹Tys _›.h,‹Fc _›.h]
  repeat (refine b4o ?_)
  refine k _ ?_
  clear k K
  exact b.h):A:=e b
theorem f5u {A B:Prop} (b:Ho B) (e:Ho B→A:=by
  intro b
  refine b5v ?_
  intro K k
  simp only [zE,b03,b0w,b0m,Nat.reduceEqDiff,reduceIte,Nat.reduceLT,implies_true,forall_const,reduceCtorEq,V.ofValue,V.ofScalar,V.un,V.gd,b1k,aop,aUn,b00,Value.oneCell',List.all_cons,List.all_nil,Bool.and_self,‹Tys _›.h,‹Fc _›.h]
  repeat (refine b4o ?_)
  refine k _ ?_
  clear k K
  exact b.h):A:=e b
theorem c8f {A B:Prop} (b:Ho B) (e:Ho B→A:=by
  intro b
  first
  | refine b6e rfl rfl rfl ?_ ?_
    · first | rfl | (simp only [zV,b1o,Nat.reduceEqDiff,reduceIte];done)
    simp only [zW,b0m,Nat.reduceEqDiff,reduceIte]
  | skip
    refine b5v ?_
    intro K k
    simp only [zE,zG,b03,b0w,b0m,Nat.reduceEqDiff,reduceIte,Nat.reduceLT,implies_true,forall_const,reduceCtorEq,V.ofValue,V.ofScalar,V.un,V.gd,b1o,V.wrap,b1k,aop,aUn,b00,Value.oneCell',List.all_cons,List.all_nil,Bool.and_self,‹Tys _›.h,‹Fc _›.h]
    repeat (refine b4o ?_)
    refine k _ ?_
    clear k K
  exact b.h):A:=e b
theorem f7u {A B:Prop} (b:Ho B) (e:Ho B→A:=by
  intro b
  refine b5v ?_
  intro K k
  simp only [zE,b03,b0w,b0m,Nat.reduceEqDiff,reduceIte,Nat.reduceLT,implies_true,forall_const,reduceCtorEq,V.ofValue,V.ofScalar,V.un,V.gd,b1k,aop,d18,c1x,or_true,true_or,or_false,false_or,EK.fitsL,EK.fits,b4m,b6u,f72,TypeDesc.slice.injEq,f6a,f5j,b00,Value.oneCell',List.all_cons,List.all_nil,Bool.and_self,‹Tys _›.h,‹Fc _›.h]
  repeat (refine b4o ?_)
  intro nb hnb
  refine k _ ?_
  clear k K
  revert nb hnb
  exact b.h):A:=e b
theorem zk {A B:Prop} (b:Ho B) (e:Ho B→A:=by
  intro b
  simp only [b0s,b0k,b0h,b0i,b0n,Nat.reduceEqDiff,reduceIte]
  exact b.h):A:=e b
theorem zCl {A B:Prop} (b:Ho B) (e:Ho B→A:=by
  intro b
  simp only [zE,zL,zO,zN,b03,b0w,b0m,Nat.reduceEqDiff,reduceIte,Nat.reduceLT,implies_true,forall_const,reduceCtorEq,V.ofValue,V.ofScalar,V.un,V.gd,b8g,b1j,Blk.row,b9y,Go.Vm.part,V.cells,V.noSl,V.noRef,Nat.reduceAdd,Nat.reduceLeDiff,Nat.reduceMul,‹Tys _›.h]
  exact b.h):A:=e b
theorem zf {A B:Prop} (b:Ho B) (e:Ho B→A:=by
  intro b
  simp only [d5g,b93,c85,b0i,b0n,Nat.reduceEqDiff,reduceIte,List.map_cons,List.map_nil]
  exact b.h):A:=e b
theorem b0d {P:Program} {L:b5h} {m:Nat} {Q:AEx→St→Prop} {s:St} {c:Operand} {x y:Code} (b:Bool) (hc:s.ev c=.bool b) {p q:Prop} (h1:p→awp P L m x Q s) (h2:q→awp P L m y Q s)
    (hp:b=true→p:=by first | (intro h;simp only [zC,reduceCtorEq] at h;exact h) | exact fun h=>h) (hq:b=false→q:=by first | (intro h;simp only [zC,reduceCtorEq] at h;exact h) | exact fun h=>h):awp P L m (.cond c x y) Q s:=
  b1z b hc (fun h=>h1 (hp h)) (fun h=>h2 (hq h))
theorem b0b {m:Nat} {s s':St} {B:Prop} (ks ids:List Nat) (b:Ho B) (hn:ids.Nodup:=by decide) (hm:∀j,j < m→ids[j]? =some j:=by simp)
    (he:∀p∈(s.keep ks).env,p.2.only (fun id=>(idx ids id).isSome)=true:=by simp [b0s,b0k,b0h,b0i,V.only,V.onlyL,idx]<;>(first | rfl | decide))
    (hb:∀id∈ids,∀bk,s.O[id]? =some bk→bk.kindIs (fun k=>k.nm)=true:=by simp [Blk.kindIs,b0v,b09])
    (e:Ho B→(s.keep ks).comp ids=s':=by
      intro b
      simp only [b0s,b0k,b0h,b0i,b0n,Nat.reduceEqDiff,reduceIte,St.comp,List.map_cons,List.map_nil,V.ren,V.renL,idx,List.getD_cons_zero,List.getD_cons_succ,Nat.reduceBEq,cond_true,cond_false,Option.map_some,Option.getD_some,Nat.reduceAdd,c6o,decide_true,decide_false]
      exact b.h):b5i m s s':=c28 ks ids hn hm he hb (e b)
theorem b5b {m:Nat} {s s':St} {B:Prop} (ks ids:List Nat) (b:Ho B) (hn:ids.Nodup:=by decide) (hm:∀j,j < m→ids[j]? =some j:=by simp)
    (he:∀p∈(s.keep ks).env,p.2.only (fun id=>(idx ids id).isSome)=true:=by simp [b0s,b0k,b0h,b0i,V.only,V.onlyL,idx,‹Caps _›.cn]<;>(first | rfl | decide))
    (hb:∀id∈ids,∀bk,s.O[id]? =some bk→bk.kindIs (fun k=>k.nm)=true:=by simp [Blk.kindIs,b0v,b09])
    (e:Ho B→(s.keep ks).comp ids=s':=by
      intro b
      simp only [b0s,b0k,b0h,b0i,b0n,Nat.reduceEqDiff,reduceIte,St.comp,List.map_cons,List.map_nil,V.ren,V.renL,idx,List.getD_cons_zero,List.getD_cons_succ,Nat.reduceBEq,cond_true,cond_false,Option.map_some,Option.getD_some,Nat.reduceAdd,c6o,decide_true,decide_false,‹Caps _›.cr]
      exact b.h):b5i m s s':=c28 ks ids hn hm he hb (e b)
theorem b4j {m:Nat} {s s':St} {B:Prop} (ks ids:List Nat) (b:Ho B) (hn:ids.Nodup:=by decide) (hm:∀j,j < m→ids[j]? =some j:=by simp)
    (he:∀p∈(s.keep ks).env,p.2.only (fun id=>(idx ids id).isSome)=true:=by simp [b0s,b0k,b0h,b0i,V.only,V.onlyL,idx]<;>(first | rfl | decide))
    (hb:∀id∈ids,∀bk,s.O[id]? =some bk→bk.onlyM (fun id=>(idx ids id).isSome)=true:=by simp [Blk.onlyM,b6x,b6z,b67,b61,b8m,b64,b6g,b8v,V.only,V.onlyL,idx]<;>(first | rfl | decide))
    (e:Ho B→(s.keep ks).compM ids=s':=by
      intro b
      simp only [b0s,b0k,b0h,b0i,b0n,Nat.reduceEqDiff,reduceIte,St.compM,Blk.renM,b6x,b6z,b67,b61,b8m,b64,b6g,b8v,List.map_cons,List.map_nil,V.ren,V.renL,idx,List.getD_cons_zero,List.getD_cons_succ,Nat.reduceBEq,cond_true,cond_false,Option.map_some,Option.getD_some,Nat.reduceAdd,c6o,decide_true,decide_false]
      exact b.h):b5i m s s':=c3w ks ids hn hm he hb (e b)
theorem d0g {m:Nat} {s:St} (ks ids:List Nat) (hn:ids.Nodup:=by decide) (hm:∀j,j < m→ids[j]? =some j:=by simp)
    (he:∀p∈(s.keep ks).env,p.2.only (fun id=>(idx ids id).isSome)=true:=by simp [b0s,b0k,b0h,b0i,V.only,V.onlyL,idx]<;>(first | rfl | decide))
    (hb:∀id∈ids,∀bk,s.O[id]? =some bk→bk.onlyM (fun id=>(idx ids id).isSome)=true:=by simp [Blk.onlyM,b6x,b6z,b67,b61,b8m,b64,b6g,b8v,V.only,V.onlyL,idx]<;>(first | rfl | decide)):b5i m s ((s.keep ks).compM ids):=c3w ks ids hn hm he hb rfl
theorem b3r {m:Nat} {s s':St} (ks ids:List Nat) (hn:ids.Nodup:=by decide) (hm:∀j,j < m→ids[j]? =some j:=by simp)
    (he:∀p∈(s.keep ks).env,p.2.only (fun id=>(idx ids id).isSome)=true:=by simp [b0s,b0k,b0h,b0i,V.only,V.onlyL,idx]<;>(first | rfl | decide))
    (hb:∀id∈ids,∀bk,s.O[id]? =some bk→bk.onlyM (fun id=>(idx ids id).isSome)=true:=by simp [Blk.onlyM,b6x,b6z,b67,b61,b8m,b64,b6g,b8v,V.only,V.onlyL,idx]<;>(first | rfl | decide))
    (e:(s.keep ks).compM ids=s':=by first | (simp only [b0s,b0k,b0h,b0i,b0n,Nat.reduceEqDiff,reduceIte,St.compM,Blk.renM,b6x,b6z,b67,b61,b8m,b64,b6g,b8v,List.map_cons,List.map_nil,V.ren,V.renL,idx,List.getD_cons_zero,List.getD_cons_succ,Nat.reduceBEq,cond_true,cond_false,Option.map_some,Option.getD_some,Nat.reduceAdd,c6o,decide_true,decide_false];done) | rfl):b5i m s s':=c3w ks ids hn hm he hb e
theorem zkm {A B:Prop} (b:Ho B) (e:Ho B→A:=by
  intro b
  simp only [b0s,b0k,b0h,b0i,b0n,Nat.reduceEqDiff,reduceIte,St.compM,Blk.renM,b6x,b6z,b67,b61,b8m,b64,b6g,b8v,List.map_cons,List.map_nil,V.ren,V.renL,idx,List.getD_cons_zero,List.getD_cons_succ,Nat.reduceBEq,cond_true,cond_false,Option.map_some,Option.getD_some,Nat.reduceAdd,c6o,decide_true,decide_false]
  exact b.h):A:=e b
theorem zc {C A B:Prop} (con:C) (b:Ho B) (e:C→Ho B→A:=by
  intro con b
  refine b5v ?_
  intro K k
  simp only [zE,zM,b03,b0w,b0m,Nat.reduceEqDiff,reduceIte,Nat.reduceLT,implies_true,forall_const,reduceCtorEq,V.ofValue,V.ofScalar,V.un,V.gd,b1k,b3s,b4p,‹Tys _›.h,‹Fc _›.h]
  repeat (refine f3t ?_)
  refine b4a con (by first | rfl | (simp only [b1l,b15,b1g,b06,b2j,Option.map_some,idx,b1j,List.getElem?_cons_zero,List.getElem?_cons_succ,Option.bind_some,Blk.row,b0v,b09,b1d,b1b,b1c,b1e,cond_true,List.map_take];done) | (simp [b1l,b15,b1g,b06,b2j,idx,b1j,Blk.row,b0v,b09,b1d,b1b,b1c,b1e,Nat.beq_refl];done)) (by first | exact .inl ⟨rfl,by simp [Blk.kindIs,b2g,b44]⟩ | exact .inr (by simp [V.cold])) ?_
  refine k _ ?_
  clear k K
  simp only [zY,zW,b0m,Nat.reduceEqDiff,reduceIte,V.ren,V.renL,rho,Nat.reduceAdd]
  exact b.h):A:=e con b
theorem zcl {C A B:Prop} (con:C) (b:Ho B) (e:C→Ho B→A:=by
  intro con b
  refine b5v ?_
  intro K k
  simp only [zE,zM,b03,b0w,b0m,Nat.reduceEqDiff,reduceIte,Nat.reduceLT,implies_true,forall_const,reduceCtorEq,V.ofValue,V.ofScalar,V.un,V.gd,b1k,b3s,b4p,‹Tys _›.h,‹Fc _›.h]
  repeat (refine f3t ?_)
  refine b4x _ con (by first | rfl | (simp only [b1l,b15,b1g,b06,b2j,Option.map_some,idx,b1j,List.getElem?_cons_zero,List.getElem?_cons_succ,Option.bind_some,Blk.row,b0v,b09,b1d,b1b,b1c,b1e,cond_true,List.map_take];done) | (simp [b1l,b15,b1g,b06,b2j,idx,b1j,Blk.row,b0v,b09,b1d,b1b,b1c,b1e,Nat.beq_refl];done)) (by rfl) ⟨by simp [Blk.kindIs,b0v,b09],by simp⟩ (by first | exact .inl rfl | exact .inr (by simp [Blk.kindIs])) ⟨rfl,by simp [Blk.kindIs,b2g,b44]⟩ ?_
  refine k _ ?_
  clear k K
  simp only [zY,zW,b0m,Nat.reduceEqDiff,reduceIte,b7f,c8k,V.ren,V.renL,List.set_cons_zero,List.set_cons_succ,Nat.reduceAdd]
  exact b.h):A:=e con b
theorem zcc {C A B:Prop} (con:C) (b:Ho B) (e:C→Ho B→A:=by
  intro con b
  refine b5v ?_
  intro K k
  simp only [zE,zM,b03,b0w,b0m,Nat.reduceEqDiff,reduceIte,Nat.reduceLT,implies_true,forall_const,reduceCtorEq,V.ofValue,V.ofScalar,V.un,V.gd,b1k,b3s,b4p,‹Tys _›.h,‹Fc _›.h]
  repeat (refine f3t ?_)
  refine b4a con (by first | rfl | (simp only [b1l,b15,b1g,b06,b2j,Option.map_some,idx,b1j,List.getElem?_cons_zero,List.getElem?_cons_succ,Option.bind_some,Blk.row,b0v,b09,b1d,b1b,b1c,b1e,cond_true,List.map_take,‹Caps _›.cc,‹Caps _›.ca];done) | (simp [b1l,b15,b1g,b06,b2j,idx,b1j,Blk.row,b0v,b09,b1d,b1b,b1c,b1e,Nat.beq_refl,‹Caps _›.cc,‹Caps _›.ca];done)) (by first | exact .inl ⟨rfl,by simp [Blk.kindIs,b2g,b44]⟩ | exact .inr (by simp [V.cold])) ?_
  refine k _ ?_
  clear k K
  simp only [zY,zW,b0m,Nat.reduceEqDiff,reduceIte,V.ren,V.renL,rho,Nat.reduceAdd]
  exact b.h):A:=e con b
theorem f8g {C A B:Prop} (con:C) (b:Ho B) (e:C→Ho B→A:=by
  intro con b
  refine b5v ?_
  intro K k
  simp only [zE,zM,b03,b0w,b0m,Nat.reduceEqDiff,reduceIte,Nat.reduceLT,implies_true,forall_const,reduceCtorEq,V.ofValue,V.ofScalar,V.un,V.gd,b1k,b3s,b4p,‹Tys _›.h,‹Fc _›.h]
  repeat (refine f3t ?_)
  refine b4x _ con (by first | rfl | (simp only [b1l,b15,b1g,b06,b2j,Option.map_some,idx,b1j,List.getElem?_cons_zero,List.getElem?_cons_succ,Option.bind_some,Blk.row,b0v,b09,b1d,b1b,b1c,b1e,cond_true,List.map_take,‹Caps _›.cc,‹Caps _›.ca];done) | (simp [b1l,b15,b1g,b06,b2j,idx,b1j,Blk.row,b0v,b09,b1d,b1b,b1c,b1e,Nat.beq_refl,‹Caps _›.cc,‹Caps _›.ca];done)) (by rfl) ⟨by simp [Blk.kindIs,b0v,b09],by simp⟩ (by first | exact .inl rfl | exact .inr (by simp [Blk.kindIs])) ⟨rfl,by simp [Blk.kindIs,b2g,b44]⟩ ?_
  refine k _ ?_
  clear k K
  simp only [zY,zW,b0m,Nat.reduceEqDiff,reduceIte,b7f,c8k,V.ren,V.renL,List.set_cons_zero,List.set_cons_succ,Nat.reduceAdd]
  exact b.h):A:=e con b
theorem f8k {C A B:Prop} (con:C) (b:Ho B) (e:C→Ho B→A:=by
  intro con b
  refine b5v ?_
  intro K k
  simp only [zE,zM,b03,b0w,b0m,Nat.reduceEqDiff,reduceIte,Nat.reduceLT,implies_true,forall_const,reduceCtorEq,V.ofValue,V.ofScalar,V.un,V.gd,b1k,b3s,b4p,‹Tys _›.h,‹Fc _›.h]
  repeat (refine f3t ?_)
  refine d5t _ _ _ con (by first | rfl | (simp only [b1l,b15,b1g,b06,b2j,Option.map_some,idx,b1j,List.getElem?_cons_zero,List.getElem?_cons_succ,Option.bind_some,Blk.row,b0v,b09,b1d,b1b,b1c,b1e,cond_true,List.map_take];done) | (simp [b1l,b15,b1g,b06,b2j,idx,b1j,Blk.row,b0v,b09,b1d,b1b,b1c,b1e,Nat.beq_refl];done)) (by rfl) (by rfl) (by rfl) (by decide) (by simp [Blk.kindIs,b0v,b09]) (by first | exact .inl rfl | exact .inr (by simp [Blk.kindIs])) ⟨rfl,by simp [Blk.kindIs,b2g,b44]⟩ ?_
  refine k _ ?_
  clear k K
  simp only [zY,zW,b0m,Nat.reduceEqDiff,reduceIte,f68,f6t,f7i,f61,V.ren,V.renL,List.set_cons_zero,List.set_cons_succ,Nat.reduceAdd,Nat.add_zero]
  exact b.h):A:=e con b
theorem d1c {P:Program} {s:St} {f:FuncId} {args args':List V} {bk bk2:Blk} {R:V→List Blk→Prop} {K:V→St→Prop} {i j:Nat} (hc:d94 P f args' [bk,bk2] R)
    (h:∀r O',R r O'→∃b1 b2 O1,O'=b1::b2::O1∧((r.clean=true∧∀b∈O',b.kindIs (fun k=>k != .shal && k.nm)=true)∨(∀x∈args,x.coldIn [i,j]=true))∧K (r.ren (rho [i,j] s.O.length)) {s with O:=(s.O.set i b1).set j b2++O1})
    (ht:b1l s [i,j] args=some args':=by first | rfl | (simp only [b1l,b15,b1g,b06,b2j,Option.map_some,idx,b1j,List.getElem?_cons_zero,List.getElem?_cons_succ,Option.bind_some,Blk.row,b0v,b09,b1d,b1b,b1c,b1e,cond_true,List.map_take];done) | (simp [b1l,b15,b1g,b06,b2j,idx,b1j,Blk.row,b0v,b09,b1d,b1b,b1c,b1e,Nat.beq_refl];done)) (hO:s.O[i]? =some bk:=by rfl) (hO2:s.O[j]? =some bk2:=by rfl) (hn:i≠j:=by decide) (hbk:(bk.kindIs (fun k=>k.nm)=true∧bk≠.dead)∧(bk2.kindIs (fun k=>k.nm)=true∧bk2≠.dead):=by exact ⟨⟨by simp [Blk.kindIs,b0v,b09],by simp⟩,⟨by simp [Blk.kindIs,b0v,b09],by simp⟩⟩)
    (hv:s.vw=false:=by rfl):c1y P s f [i,j] args K:=d3c i j hc ht hO hO2 hn hbk hv h
theorem zgc {C A B:Prop} (con:C) (b:Ho B) (e:C→Ho B→A:=by
  intro con b
  first
  | refine b6e rfl rfl rfl ?_ ?_
    · first | rfl | (simp only [zV,b1o,Nat.reduceEqDiff,reduceIte];done)
    simp only [zW,b0m,Nat.reduceEqDiff,reduceIte]
  | skip
    refine b5v ?_
    intro K k
    simp only [zE,zG,b03,b0w,b0m,Nat.reduceEqDiff,reduceIte,Nat.reduceLT,implies_true,forall_const,reduceCtorEq,V.ofValue,V.ofScalar,V.un,V.gd,b1o,‹Tys _›.h,‹Fc _›.h]
    simp only [zM,zW,b1k,b3s,b4p,b0m,Nat.reduceEqDiff,reduceIte,V.ofValue,V.ofScalar,V.un,V.gd,and_true,true_and,implies_true,and_self,decide_eq_true_eq]
    first | refine Exists.imp (fun r h=>h) (c0v con (by first | rfl | (simp only [b1l,b15,b1g,b06,b2j,Option.map_some,idx,b1j,List.getElem?_cons_zero,List.getElem?_cons_succ,Option.bind_some,Blk.row,b0v,b09,b1d,b1b,b1c,b1e,cond_true,List.map_take];done) | (simp [b1l,b15,b1g,b06,b2j,idx,b1j,Blk.row,b0v,b09,b1d,b1b,b1c,b1e,Nat.beq_refl];done)) rfl rfl ?_) | refine Exists.imp (fun r h=>h) (c0x (fun hg=>con) (by first | rfl | (simp only [b1l,b15,b1g,b06,b2j,Option.map_some,idx,b1j,List.getElem?_cons_zero,List.getElem?_cons_succ,Option.bind_some,Blk.row,b0v,b09,b1d,b1b,b1c,b1e,cond_true,List.map_take];done) | (simp [b1l,b15,b1g,b06,b2j,idx,b1j,Blk.row,b0v,b09,b1d,b1b,b1c,b1e,Nat.beq_refl];done)) rfl rfl ?_) | refine Exists.imp (fun r h=>h) (c2a (by first | (intros;trivial) | (intros;simp_all;done)) (fun hg=>con) (by first | rfl | (simp only [b1l,b15,b1g,b06,b2j,Option.map_some,idx,b1j,List.getElem?_cons_zero,List.getElem?_cons_succ,Option.bind_some,Blk.row,b0v,b09,b1d,b1b,b1c,b1e,cond_true,List.map_take];done) | (simp [b1l,b15,b1g,b06,b2j,idx,b1j,Blk.row,b0v,b09,b1d,b1b,b1c,b1e,Nat.beq_refl];done)) rfl rfl ?_)
    refine k _ ?_
    clear k K
  exact b.h):A:=e con b
theorem b5j {A B:Prop} (b:Ho B) (e:Ho B→A:=by
  intro b
  intro K k
  simp only [zE,zS,zO,zN,b03,b0w,b0m,Nat.reduceEqDiff,reduceIte,Nat.reduceLT,implies_true,forall_const,reduceCtorEq,V.ofValue,V.ofScalar,V.un,V.gd,b1k,aop,Nat.reduceAdd,Value.oneCell',V.isVal,V.cells,b4i,b2k,V.noSl,V.noRef,List.all_cons,List.all_nil,List.map_cons,List.map_nil,gt_iff_lt,Nat.reduceLeDiff,Nat.reduceMul,b00,‹Tys _›.h,‹Fc _›.h]
  repeat (refine b4o ?_)
  refine k _ ?_
  clear k K
  exact b.h):A:=e b
theorem b1u {A B:Prop} (b:Ho B) (e:Ho B→A:=by
  intro b
  intro K k
  simp only [zE,zO,zN,b03,b0w,b0m,Nat.reduceEqDiff,reduceIte,Nat.reduceLT,implies_true,forall_const,reduceCtorEq,V.ofValue,V.ofScalar,V.un,V.gd,b1k,aop,b7w,f7t,f7l,f7q,f7s,f7o,f7p,f7n,f7r,f7m,f7k,f4f,f37,f4k,List.map_cons,List.map_nil,List.all_cons,List.all_nil,V.isVal,V.cells,b35,b00,b2k,V.noRef,V.noSl,List.mem_cons,List.not_mem_nil,or_false,forall_eq_or_imp,forall_eq,if_true,Option.isSome_some,List.length_cons,List.length_nil,Nat.reduceAdd,Nat.reduceLeDiff,Nat.reduceMul,Value.oneCell',‹Tys _›.h,‹Fc _›.h]
  repeat (refine b4o ?_)
  refine k _ ?_
  clear k K
  exact b.h):A:=e b
theorem b2v {A B:Prop} (b:Ho B) (e:Ho B→A:=by
  intro b
  intro K k
  simp only [zE,zL,zO,zN,b03,b0w,b0m,Nat.reduceEqDiff,reduceIte,Nat.reduceLT,implies_true,forall_const,reduceCtorEq,V.ofValue,V.ofScalar,V.un,V.gd,b1k,aop,c4r,beq_self_eq_true,List.nodup_cons,List.mem_singleton,forall_eq',List.size_toArray,List.getD_eq_getElem?_getD,Array.getD_eq_getD_getElem?,Option.getD_some,b6t,c6h,c5r,b3o,b92,b10,b2p,b1j,Blk.row,b4e,V.isSub,V.noSl,Value.cells,Option.toList,List.forall_mem_map,List.length_map,List.all_cons,List.all_nil,List.isEmpty_nil,List.isEmpty_cons,List.not_mem_nil,List.nodup_nil,c4o,d1a,c3t,c9q,c9a,b85,c09,List.mem_cons,or_false,forall_eq_or_imp,forall_eq,List.set_cons_zero,List.set_cons_succ,List.length_append,Go.Vm.V.cells,Nat.reduceAdd,Nat.reduceLeDiff,Nat.reduceMul,b00,Value.oneCell',‹Tys _›.h,‹Fc _›.h]
  repeat (refine b4o ?_)
  refine k _ ?_
  clear k K
  exact b.h):A:=e b
theorem b3i {A B:Prop} (b:Ho B) (e:Ho B→A:=by
  intro b
  intro K k
  simp only [zE,zL,zN,b03,b0w,b0m,Nat.reduceEqDiff,reduceIte,Nat.reduceLT,implies_true,forall_const,reduceCtorEq,V.ofValue,V.ofScalar,V.un,V.gd,b1k,aop,List.set_cons_zero,List.set_cons_succ,b9x,forall_eq',b6v,c0y,Option.map_none,Option.isNone_none,b1j,Blk.row,TypeDesc.slice.injEq,List.forall_mem_map,List.length_map,Go.Vm.V.cells,Int.toNat_natCast,Int.reduceToNat,←List.map_take,←List.map_drop,List.take_length,Nat.reduceAdd,Nat.reduceLeDiff,Nat.reduceMul,b00,Value.oneCell',List.all_cons,List.all_nil,Bool.and_self,‹Tys _›.h,‹Fc _›.h]
  repeat (refine b4o ?_)
  refine k _ ?_
  clear k K
  exact b.h):A:=e b
theorem c1q {A B:Prop} (b:Ho B) (e:Ho B→A:=by
  intro b
  intro K k
  simp only [zE,zL,zO,zN,b03,b0w,b0m,Nat.reduceEqDiff,reduceIte,Nat.reduceLT,implies_true,forall_const,reduceCtorEq,V.ofValue,V.ofScalar,V.un,V.gd,b1k,aop,b8g,b1j,Blk.row,b9y,Go.Vm.part,V.cells,V.noSl,V.noRef,Nat.reduceAdd,Nat.reduceLeDiff,Nat.reduceMul,b00,Value.oneCell',List.all_cons,List.all_nil,‹Tys _›.h,‹Fc _›.h]
  repeat (refine b4o ?_)
  refine k _ ?_
  clear k K
  exact b.h):A:=e b
theorem zsc {C A B:Prop} (con:C) (b:Ho B) (e:C→Ho B→A:=by
  intro con b K k
  simp only [zE,zM,b03,b0w,b0m,Nat.reduceEqDiff,reduceIte,Nat.reduceLT,implies_true,forall_const,reduceCtorEq,V.ofValue,V.ofScalar,V.un,V.gd,b1k,b3s,b4p,‹Tys _›.h,‹Fc _›.h]
  repeat (refine f3t ?_)
  refine b4a con (by first | rfl | (simp only [b1l,b15,b1g,b06,b2j,Option.map_some,idx,b1j,List.getElem?_cons_zero,List.getElem?_cons_succ,Option.bind_some,Blk.row,b0v,b09,b1d,b1b,b1c,b1e,cond_true,List.map_take];done) | (simp [b1l,b15,b1g,b06,b2j,idx,b1j,Blk.row,b0v,b09,b1d,b1b,b1c,b1e,Nat.beq_refl];done)) (by first | exact .inl ⟨rfl,by simp [Blk.kindIs,b2g,b44]⟩ | exact .inr (by simp [V.cold])) ?_
  refine k _ ?_
  clear k K
  simp only [zY,zW,b0m,Nat.reduceEqDiff,reduceIte,V.ren,V.renL,rho,Nat.reduceAdd]
  exact b.h):A:=e con b
theorem b02 {O:List Blk} {t:St} (h:Grow O t.O):∀i,(O[i]?).isSome=true→t.row i=(O[i]?).bind Blk.row:=by
  intro i hi
  unfold St.row
  cases hb:O[i]? with
  | none=>rw [hb] at hi;cases hi
  | some b=>rw [h i b hb]
theorem b0o {P:Program} {L:b5h} {rg:Array Oper} {K:St→Prop} {fuel:Nat} {listed:Array Bool} {env:List (Nat×V)} {O:List Blk} {vw:Bool} {n m:Nat} {oi:Oper} {rest:List Oper} {v:V} (hK:∀s t,EqS s t→K s→K t) (kp:Bool) (i d:Nat)
    (b:b14 P L rg K fuel (listed.setIfInBounds i true) ⟨(d,v)::env,O,vw,n,m⟩) (hi:rg.toList.drop i=oi::rest:=by rfl) (hd:oi.dst=some d:=by rfl) (hf:Region.freeG L kp rg listed i=true:=by kernel_rfl) (hr:(Region.ready .any rg listed).contains i=true:=by kernel_rfl)
    (hp:b5x P L rg kp oi d v ⟨env,O,vw,n,m⟩:=by
      intro t hn gx ho K' k'
      dsimp only at hn
      refine .inl ?_
      simp (disch:=first | decide | rfl) only [gx,zE,b03,b0w,Nat.reduceEqDiff,reduceIte,Nat.reduceLT,implies_true,forall_const,reduceCtorEq,V.ofValue,V.ofScalar,V.un,V.gd,b1k,aop,b00,Value.oneCell',List.all_cons,List.all_nil,Bool.and_self,‹Tys _›.h,‹Fc _›.h]
      repeat (refine b4o ?_)
      exact k'):b14 P L rg K (fuel+1) listed ⟨env,O,vw,n,m⟩:=b13 hK kp i d hi hd hf hr ⟨v,hp,b⟩
theorem b0y {P:Program} {L:b5h} {rg:Array Oper} {K:St→Prop} {fuel:Nat} {listed:Array Bool} {env:List (Nat×V)} {O:List Blk} {vw:Bool} {n m:Nat} {oi:Oper} {rest:List Oper} {v:V} (hK:∀s t,EqS s t→K s→K t) (kp:Bool) (i d:Nat)
    (b:b14 P L rg K fuel (listed.setIfInBounds i true) ⟨(d,v)::env,O,vw,n,m⟩) (hi:rg.toList.drop i=oi::rest:=by rfl) (hd:oi.dst=some d:=by rfl) (hf:Region.freeG L kp rg listed i=true:=by kernel_rfl) (hr:(Region.ready .any rg listed).contains i=true:=by kernel_rfl)
    (hp : b5x P L rg kp oi d v ⟨env,O,vw,n,m⟩:=by
      intro t hn gx ho K' k'
      dsimp only at hn
      first
      | refine .inr ⟨?_,_,_,false,rfl,?_,nofun,fun _=>⟨.any,k'⟩⟩
        · simp only [hn,b45,Nat.reduceLT]
        · first | rfl | (simp (disch:=decide) only [gx,zV,b1o,Nat.reduceEqDiff,reduceIte];done)
      | skip
        refine .inl ?_
        simp (disch:=first | decide | rfl) only [gx,zE,zG,b03,b0w,Nat.reduceEqDiff,reduceIte,Nat.reduceLT,implies_true,forall_const,reduceCtorEq,V.ofValue,V.ofScalar,V.un,V.gd,b1o,V.wrap,b1k,aop,b00,Value.oneCell',List.all_cons,List.all_nil,Bool.and_self,‹Tys _›.h,‹Fc _›.h]
        repeat (refine b4o ?_)
        exact k'):b14 P L rg K (fuel+1) listed ⟨env,O,vw,n,m⟩:=b13 hK kp i d hi hd hf hr ⟨v,hp,b⟩
theorem b1w {P:Program} {L:b5h} {rg:Array Oper} {K:St→Prop} {fuel:Nat} {listed:Array Bool} {env:List (Nat×V)} {O:List Blk} {vw:Bool} {n m:Nat} {oi:Oper} {rest:List Oper} {v:V} (hK:∀s t,EqS s t→K s→K t) (kp:Bool) (i d:Nat)
    (b:b14 P L rg K fuel (listed.setIfInBounds i true) ⟨(d,v)::env,O,vw,n,m⟩) (hi:rg.toList.drop i=oi::rest:=by rfl) (hd:oi.dst=some d:=by rfl) (hf:Region.freeG L kp rg listed i=true:=by kernel_rfl) (hr:(Region.ready .any rg listed).contains i=true:=by kernel_rfl)
    (hp:b5x P L rg kp oi d v ⟨env,O,vw,n,m⟩:=by
      intro t hn gx ho K' k'
      dsimp only at hn
      refine .inl ?_
      simp (disch:=first | decide | rfl) only [gx,zE,zP,b03,b0w,Nat.reduceEqDiff,reduceIte,Nat.reduceLT,implies_true,forall_const,reduceCtorEq,V.ofValue,V.ofScalar,V.un,V.gd,b1k,aop,d3h,b00,Value.oneCell',List.all_cons,List.all_nil,Bool.and_self,‹Tys _›.h,‹Fc _›.h]
      repeat (refine b4o ?_)
      exact k'):b14 P L rg K (fuel+1) listed ⟨env,O,vw,n,m⟩:=b13 hK kp i d hi hd hf hr ⟨v,hp,b⟩
theorem b38 {P:Program} {L:b5h} {rg:Array Oper} {K:St→Prop} {fuel:Nat} {listed:Array Bool} {env:List (Nat×V)} {O:List Blk} {vw:Bool} {n m:Nat} {oi:Oper} {rest:List Oper} {v:V} (hK:∀s t,EqS s t→K s→K t) (kp:Bool) (i d:Nat)
    (b:b14 P L rg K fuel (listed.setIfInBounds i true) ⟨(d,v)::env,O,vw,n,m⟩) (hi:rg.toList.drop i=oi::rest:=by rfl) (hd:oi.dst=some d:=by rfl) (hf:Region.freeG L kp rg listed i=true:=by kernel_rfl) (hr:(Region.ready .any rg listed).contains i=true:=by kernel_rfl)
    (hp : b5x P L rg kp oi d v ⟨env,O,vw,n,m⟩:=by
      intro t hn gx ho K' k'
      dsimp only at hn
      first
      | refine .inr ⟨?_,_,_,false,rfl,?_,nofun,fun _=>⟨.any,k'⟩⟩
        · simp only [hn,b45,Nat.reduceLT]
        · first | rfl | (simp (disch:=decide) only [gx,zV,b1o,Nat.reduceEqDiff,reduceIte];done)
      | skip
        refine .inl ?_
        simp (disch:=first | decide | rfl) only [gx,zE,zP,zG,b03,b0w,Nat.reduceEqDiff,reduceIte,Nat.reduceLT,implies_true,forall_const,reduceCtorEq,V.ofValue,V.ofScalar,V.un,V.gd,b1o,V.wrap,b1k,aop,d3h,b00,Value.oneCell',List.all_cons,List.all_nil,Bool.and_self,‹Tys _›.h,‹Fc _›.h]
        repeat (refine b4o ?_)
        exact k'):b14 P L rg K (fuel+1) listed ⟨env,O,vw,n,m⟩:=b13 hK kp i d hi hd hf hr ⟨v,hp,b⟩
theorem b1h {P:Program} {L:b5h} {rg:Array Oper} {K:St→Prop} {fuel:Nat} {listed:Array Bool} {env:List (Nat×V)} {O:List Blk} {vw:Bool} {n m:Nat} {oi:Oper} {rest:List Oper} {v:V} (hK:∀s t,EqS s t→K s→K t) (kp:Bool) (i d:Nat)
    (b:b14 P L rg K fuel (listed.setIfInBounds i true) ⟨(d,v)::env,O,vw,n,m⟩) (hi:rg.toList.drop i=oi::rest:=by rfl) (hd:oi.dst=some d:=by rfl) (hf:Region.freeG L kp rg listed i=true:=by kernel_rfl) (hr:(Region.ready .any rg listed).contains i=true:=by kernel_rfl)
    (hp:b5x P L rg kp oi d v ⟨env,O,vw,n,m⟩:=by
      intro t hn gx ho K' k'
      dsimp only at hn
      first | have r0:=b02 (ho rfl) 0 rfl | have r0:=True.intro
      first | have r1:=b02 (ho rfl) 1 rfl | have r1:=True.intro
      first | have r2:=b02 (ho rfl) 2 rfl | have r2:=True.intro
      first | have r3:=b02 (ho rfl) 3 rfl | have r3:=True.intro
      first | have r4:=b02 (ho rfl) 4 rfl | have r4:=True.intro
      first | have r5:=b02 (ho rfl) 5 rfl | have r5:=True.intro
      refine .inl ?_
      simp (disch:=first | decide | rfl) only [gx,r0,r1,r2,r3,r4,r5,zE,zL,zO,zN,b03,b0w,Nat.reduceEqDiff,reduceIte,Nat.reduceLT,implies_true,forall_const,reduceCtorEq,V.ofValue,V.ofScalar,V.un,V.gd,b1k,aop,b8g,b1j,Blk.row,b9y,Go.Vm.part,V.cells,V.noSl,V.noRef,Nat.reduceAdd,Nat.reduceLeDiff,Nat.reduceMul,b00,Value.oneCell',List.all_cons,List.all_nil,‹Tys _›.h,‹Fc _›.h]
      repeat (refine b4o ?_)
      exact k'):b14 P L rg K (fuel+1) listed ⟨env,O,vw,n,m⟩:=b13 hK kp i d hi hd hf hr ⟨v,hp,b⟩
theorem b2w {P:Program} {L:b5h} {rg:Array Oper} {K:St→Prop} {fuel:Nat} {listed:Array Bool} {env:List (Nat×V)} {O:List Blk} {vw:Bool} {n m:Nat} {oi:Oper} {rest:List Oper} {v:V} (hK:∀s t,EqS s t→K s→K t) (kp:Bool) (i d:Nat)
    (b:b14 P L rg K fuel (listed.setIfInBounds i true) ⟨(d,v)::env,O,vw,n,m⟩) (hi:rg.toList.drop i=oi::rest:=by rfl) (hd:oi.dst=some d:=by rfl) (hf:Region.freeG L kp rg listed i=true:=by kernel_rfl) (hr:(Region.ready .any rg listed).contains i=true:=by kernel_rfl)
    (hp:b5x P L rg kp oi d v ⟨env,O,vw,n,m⟩:=by
      intro t hn gx ho K' k'
      dsimp only at hn
      first | have r0:=b02 (ho rfl) 0 rfl | have r0:=True.intro
      first | have r1:=b02 (ho rfl) 1 rfl | have r1:=True.intro
      first | have r2:=b02 (ho rfl) 2 rfl | have r2:=True.intro
      first | have r3:=b02 (ho rfl) 3 rfl | have r3:=True.intro
      first | have r4:=b02 (ho rfl) 4 rfl | have r4:=True.intro
      first | have r5:=b02 (ho rfl) 5 rfl | have r5:=True.intro
      first | have r6:=b02 (ho rfl) 6 rfl | have r6:=True.intro
      first | have r7:=b02 (ho rfl) 7 rfl | have r7:=True.intro
      first | have r8:=b02 (ho rfl) 8 rfl | have r8:=True.intro
      first | have r9:=b02 (ho rfl) 9 rfl | have r9:=True.intro
      first | have r10:=b02 (ho rfl) 10 rfl | have r10:=True.intro
      first | have r11:=b02 (ho rfl) 11 rfl | have r11:=True.intro
      first | have r12:=b02 (ho rfl) 12 rfl | have r12:=True.intro
      first | have r13:=b02 (ho rfl) 13 rfl | have r13:=True.intro
      first | have r14:=b02 (ho rfl) 14 rfl | have r14:=True.intro
      first | have r15:=b02 (ho rfl) 15 rfl | have r15:=True.intro
      first | have r16:=b02 (ho rfl) 16 rfl | have r16:=True.intro
      first | have r17:=b02 (ho rfl) 17 rfl | have r17:=True.intro
      first | have r18:=b02 (ho rfl) 18 rfl | have r18:=True.intro
      first | have r19:=b02 (ho rfl) 19 rfl | have r19:=True.intro
      first | have r20:=b02 (ho rfl) 20 rfl | have r20:=True.intro
      first | have r21:=b02 (ho rfl) 21 rfl | have r21:=True.intro
      first | have r22:=b02 (ho rfl) 22 rfl | have r22:=True.intro
      first | have r23:=b02 (ho rfl) 23 rfl | have r23:=True.intro
      refine .inl ?_
      simp (disch:=first | decide | rfl) only [gx,r0,r1,r2,r3,r4,r5,zE,zL,zO,zN,r6,r7,r8,r9,r10,r11,r12,r13,r14,r15,r16,r17,r18,r19,r20,r21,r22,r23,b03,b0w,Nat.reduceEqDiff,reduceIte,Nat.reduceLT,implies_true,forall_const,reduceCtorEq,V.ofValue,V.ofScalar,V.un,V.gd,b1k,aop,b8g,b1j,Blk.row,b9y,Go.Vm.part,V.cells,V.noSl,V.noRef,Nat.reduceAdd,Nat.reduceLeDiff,Nat.reduceMul,b00,Value.oneCell',List.all_cons,List.all_nil,‹Tys _›.h,‹Fc _›.h]
      repeat (refine b4o ?_)
      exact k'):b14 P L rg K (fuel+1) listed ⟨env,O,vw,n,m⟩:=b13 hK kp i d hi hd hf hr ⟨v,hp,b⟩
theorem b0q {P:Program} {L:b5h} {rg:Array Oper} {K:St→Prop} {fuel:Nat} {listed:Array Bool} {env:List (Nat×V)} {O:List Blk} {vw:Bool} {n m:Nat} {oi:Oper} {rest:List Oper} {v:V} (hK:∀s t,EqS s t→K s→K t) (kp:Bool) (i d:Nat)
    (b:b14 P L rg K fuel (listed.setIfInBounds i true) ⟨(d,v)::env,O,vw,n,m⟩) (hi:rg.toList.drop i=oi::rest:=by rfl) (hd:oi.dst=some d:=by rfl) (hf:Region.freeG L kp rg listed i=true:=by kernel_rfl) (hr:(Region.ready .any rg listed).contains i=true:=by kernel_rfl)
    (hp : b5x P L rg kp oi d v ⟨env,O,vw,n,m⟩:=by
      intro t hn gx ho K' k'
      dsimp only at hn
      first | have r0:=b02 (ho rfl) 0 rfl | have r0:=True.intro
      first | have r1:=b02 (ho rfl) 1 rfl | have r1:=True.intro
      first | have r2:=b02 (ho rfl) 2 rfl | have r2:=True.intro
      first | have r3:=b02 (ho rfl) 3 rfl | have r3:=True.intro
      first | have r4:=b02 (ho rfl) 4 rfl | have r4:=True.intro
      first | have r5:=b02 (ho rfl) 5 rfl | have r5:=True.intro
      first
      | refine .inr ⟨?_,_,_,false,rfl,?_,nofun,fun _=>⟨.any,k'⟩⟩
        · simp only [hn,b45,Nat.reduceLT]
        · first | rfl | (simp (disch:=decide) only [gx,zV,b1o,Nat.reduceEqDiff,reduceIte];done)
      | skip
        refine .inl ?_
        simp (disch:=first | decide | rfl) only [gx,r0,r1,r2,r3,r4,r5,zE,zL,zO,zN,b03,b0w,Nat.reduceEqDiff,reduceIte,Nat.reduceLT,implies_true,forall_const,reduceCtorEq,V.ofValue,V.ofScalar,V.un,V.gd,b1o,V.wrap,b1k,aop,b8g,b1j,Blk.row,b9y,Go.Vm.part,V.cells,V.noSl,V.noRef,Nat.reduceAdd,Nat.reduceLeDiff,Nat.reduceMul,b00,Value.oneCell',List.all_cons,List.all_nil,‹Tys _›.h,‹Fc _›.h]
        repeat (refine b4o ?_)
        exact k'):b14 P L rg K (fuel+1) listed ⟨env,O,vw,n,m⟩:=b13 hK kp i d hi hd hf hr ⟨v,hp,b⟩
theorem b37 {P:Program} {L:b5h} {rg:Array Oper} {K:St→Prop} {fuel:Nat} {listed:Array Bool} {env:List (Nat×V)} {O:List Blk} {vw:Bool} {n m:Nat} {oi:Oper} {rest:List Oper} {v:V} (hK:∀s t,EqS s t→K s→K t) (kp:Bool) (i d:Nat)
    (b:b14 P L rg K fuel (listed.setIfInBounds i true) ⟨(d,v)::env,O,vw,n,m⟩) (hi:rg.toList.drop i=oi::rest:=by rfl) (hd:oi.dst=some d:=by rfl) (hf:Region.freeG L kp rg listed i=true:=by kernel_rfl) (hr:(Region.ready .any rg listed).contains i=true:=by kernel_rfl)
    (hp:b5x P L rg kp oi d v ⟨env,O,vw,n,m⟩:=by
      intro t hn gx ho K' k'
      dsimp only at hn
      refine .inl ?_
      simp (disch:=first | decide | rfl) only [gx,zE,b03,b0w,Nat.reduceEqDiff,reduceIte,Nat.reduceLT,implies_true,forall_const,reduceCtorEq,V.ofValue,V.ofScalar,V.un,V.gd,b1k,aop,b00,Value.oneCell',List.all_cons,List.all_nil,Bool.and_self,‹Tys _›.h,‹Fc _›.h]
      repeat (refine b4o ?_)
      exact k'):b14 P L rg K (fuel+1) listed ⟨env,O,vw,n,m⟩:=b13 hK kp i d hi hd hf hr ⟨v,hp,b⟩
theorem b6c {P:Program} {L:b5h} {rg:Array Oper} {K:St→Prop} {fuel:Nat} {listed:Array Bool} {env:List (Nat×V)} {O:List Blk} {vw:Bool} {n m:Nat} {oi:Oper} {rest:List Oper} {v:V} (hK:∀s t,EqS s t→K s→K t) (kp:Bool) (i d:Nat)
    (b:b14 P L rg K fuel (listed.setIfInBounds i true) ⟨(d,v)::env,O,vw,n,m⟩) (hi:rg.toList.drop i=oi::rest:=by rfl) (hd:oi.dst=some d:=by rfl) (hf:Region.freeG L kp rg listed i=true:=by kernel_rfl) (hr:(Region.ready .any rg listed).contains i=true:=by kernel_rfl)
    (hp : b5x P L rg kp oi d v ⟨env,O,vw,n,m⟩:=by
      intro t hn gx ho K' k'
      dsimp only at hn
      first
      | refine .inr ⟨?_,_,_,false,rfl,?_,nofun,fun _=>⟨.any,k'⟩⟩
        · simp only [hn,b45,Nat.reduceLT]
        · first | rfl | (simp (disch:=decide) only [gx,zV,b1o,Nat.reduceEqDiff,reduceIte];done)
      | skip
        refine .inl ?_
        simp (disch:=first | decide | rfl) only [gx,zE,zG,b03,b0w,Nat.reduceEqDiff,reduceIte,Nat.reduceLT,implies_true,forall_const,reduceCtorEq,V.ofValue,V.ofScalar,V.un,V.gd,b1o,V.wrap,b1k,aop,b00,Value.oneCell',List.all_cons,List.all_nil,Bool.and_self,‹Tys _›.h,‹Fc _›.h]
        repeat (refine b4o ?_)
        exact k'):b14 P L rg K (fuel+1) listed ⟨env,O,vw,n,m⟩:=b13 hK kp i d hi hd hf hr ⟨v,hp,b⟩
theorem b2a {P:Program} {L:b5h} {rg:Array Oper} {K:St→Prop} {fuel:Nat} {listed:Array Bool} {env:List (Nat×V)} {O:List Blk} {vw:Bool} {n m:Nat} {oi:Oper} {rest:List Oper} {v:V} (hK:∀s t,EqS s t→K s→K t) (kp:Bool) (i d:Nat)
    (b:b14 P L rg K fuel (listed.setIfInBounds i true) ⟨(d,v)::env,O,vw,n,m⟩) (hi:rg.toList.drop i=oi::rest:=by rfl) (hd:oi.dst=some d:=by rfl) (hf:Region.freeG L kp rg listed i=true:=by kernel_rfl) (hr:(Region.ready .any rg listed).contains i=true:=by kernel_rfl)
    (hp:b5x P L rg kp oi d v ⟨env,O,vw,n,m⟩:=by
      intro t hn gx ho K' k'
      dsimp only at hn
      refine .inl ?_
      simp (disch:=first | decide | rfl) only [gx,zE,b03,b0w,Nat.reduceEqDiff,reduceIte,Nat.reduceLT,implies_true,forall_const,reduceCtorEq,V.ofValue,V.ofScalar,V.un,V.gd,b1k,aop,d18,c1x,or_true,true_or,or_false,false_or,EK.fitsL,EK.fits,b4m,b6u,b00,Value.oneCell',List.all_cons,List.all_nil,Bool.and_self,‹Tys _›.h,‹Fc _›.h]
      repeat (refine b4o ?_)
      exact k'):b14 P L rg K (fuel+1) listed ⟨env,O,vw,n,m⟩:=b13 hK kp i d hi hd hf hr ⟨v,hp,b⟩
theorem d08 {P:Program} {L:b5h} {rg:Array Oper} {K:St→Prop} {fuel:Nat} {listed:Array Bool} {env:List (Nat×V)} {O:List Blk} {vw:Bool} {n m:Nat} {oi:Oper} {rest:List Oper} {v:V} (hK:∀s t,EqS s t→K s→K t) (kp:Bool) (i d:Nat)
    (b:b14 P L rg K fuel (listed.setIfInBounds i true) ⟨(d,v)::env,O,vw,n,m⟩) (hi:rg.toList.drop i=oi::rest:=by rfl) (hd:oi.dst=some d:=by rfl) (hf:Region.freeG L kp rg listed i=true:=by kernel_rfl) (hr:(Region.ready .any rg listed).contains i=true:=by kernel_rfl)
    (hp:b5x P L rg kp oi d v ⟨env,O,vw,n,m⟩:=by
      intro t hn gx ho K' k'
      dsimp only at hn
      refine .inl ?_
      simp (disch:=first | decide | rfl) only [gx,zE,b03,b0w,Nat.reduceEqDiff,reduceIte,Nat.reduceLT,implies_true,forall_const,reduceCtorEq,V.ofValue,V.ofScalar,V.un,V.gd,b1k,aop,d18,c1x,or_true,true_or,or_false,false_or,EK.fitsL,EK.fits,b4m,b6u,b00,Value.oneCell',List.all_cons,List.all_nil,Bool.and_self,‹Tys _›.h,‹Fc _›.h]
      try simp (disch:=omega) only [c8n]
      repeat (refine b4o ?_)
      exact k'):b14 P L rg K (fuel+1) listed ⟨env,O,vw,n,m⟩:=b13 hK kp i d hi hd hf hr ⟨v,hp,b⟩
theorem b0z {P:Program} {L:b5h} {rg:Array Oper} {K:St→Prop} {fuel:Nat} {listed:Array Bool} {env:List (Nat×V)} {O:List Blk} {vw:Bool} {n m:Nat} {oi:Oper} {rest:List Oper} {v:V} (hK:∀s t,EqS s t→K s→K t) (kp:Bool) (i d:Nat)
    (b:b14 P L rg K fuel (listed.setIfInBounds i true) ⟨(d,v)::env,O,vw,n,m⟩) (hi:rg.toList.drop i=oi::rest:=by rfl) (hd:oi.dst=some d:=by rfl) (hf:Region.freeG L kp rg listed i=true:=by kernel_rfl) (hr:(Region.ready .any rg listed).contains i=true:=by kernel_rfl)
    (hp : b5x P L rg kp oi d v ⟨env,O,vw,n,m⟩:=by
      intro t hn gx ho K' k'
      dsimp only at hn
      first
      | refine .inr ⟨?_,_,_,false,rfl,?_,nofun,fun _=>⟨.any,k'⟩⟩
        · simp only [hn,b45,Nat.reduceLT]
        · first | rfl | (simp (disch:=decide) only [gx,zV,b1o,Nat.reduceEqDiff,reduceIte];done)
      | skip
        refine .inl ?_
        simp (disch:=first | decide | rfl) only [gx,zE,zG,b03,b0w,Nat.reduceEqDiff,reduceIte,Nat.reduceLT,implies_true,forall_const,reduceCtorEq,V.ofValue,V.ofScalar,V.un,V.gd,b1o,V.wrap,b1k,aop,d18,c1x,or_true,true_or,or_false,false_or,EK.fitsL,EK.fits,b4m,b6u,b00,Value.oneCell',List.all_cons,List.all_nil,Bool.and_self,‹Tys _›.h,‹Fc _›.h]
        repeat (refine b4o ?_)
        exact k'):b14 P L rg K (fuel+1) listed ⟨env,O,vw,n,m⟩:=b13 hK kp i d hi hd hf hr ⟨v,hp,b⟩
theorem b2e {P:Program} {L:b5h} {rg:Array Oper} {K:St→Prop} {fuel:Nat} {listed:Array Bool} {env:List (Nat×V)} {O:List Blk} {vw:Bool} {n m:Nat} {oi:Oper} {rest:List Oper} {v:V} (hK:∀s t,EqS s t→K s→K t) (kp:Bool) (i d:Nat)
    (b:b14 P L rg K fuel (listed.setIfInBounds i true) ⟨(d,v)::env,O,vw,n,m⟩) (hi:rg.toList.drop i=oi::rest:=by rfl) (hd:oi.dst=some d:=by rfl) (hf:Region.freeG L kp rg listed i=true:=by kernel_rfl) (hr:(Region.ready .any rg listed).contains i=true:=by kernel_rfl)
    (hp : b5x P L rg kp oi d v ⟨env,O,vw,n,m⟩:=by
      intro t hn gx ho K' k'
      dsimp only at hn
      first
      | refine .inr ⟨?_,_,_,false,rfl,?_,nofun,fun _=>⟨.any,k'⟩⟩
        · simp only [hn,b45,Nat.reduceLT]
        · first | rfl | (simp (disch:=decide) only [gx,zV,b1o,Nat.reduceEqDiff,reduceIte];done)
      | skip
        refine .inl ?_
        simp (disch:=first | decide | rfl) only [gx,zE,zG,b03,b0w,Nat.reduceEqDiff,reduceIte,Nat.reduceLT,implies_true,forall_const,reduceCtorEq,V.ofValue,V.ofScalar,V.un,V.gd,b1o,V.wrap,b1k,aop,d18,c1x,or_true,true_or,or_false,false_or,EK.fitsL,EK.fits,b4m,b6u,b00,Value.oneCell',List.all_cons,List.all_nil,Bool.and_self,‹Tys _›.h,‹Fc _›.h]
        try simp (disch:=omega) only [c8n]
        repeat (refine b4o ?_)
        exact k'):b14 P L rg K (fuel+1) listed ⟨env,O,vw,n,m⟩:=b13 hK kp i d hi hd hf hr ⟨v,hp,b⟩
theorem b5q {P:Program} {L:b5h} {rg:Array Oper} {K:St→Prop} {fuel:Nat} {listed:Array Bool} {env:List (Nat×V)} {O:List Blk} {vw:Bool} {n m:Nat} {oi:Oper} {rest:List Oper} {v:V} (hK:∀s t,EqS s t→K s→K t) (kp:Bool) (i d:Nat)
    (b:b14 P L rg K fuel (listed.setIfInBounds i true) ⟨(d,v)::env,O,vw,n,m⟩) (hi:rg.toList.drop i=oi::rest:=by rfl) (hd:oi.dst=some d:=by rfl) (hf:Region.freeG L kp rg listed i=true:=by kernel_rfl) (hr:(Region.ready .any rg listed).contains i=true:=by kernel_rfl)
    (hp:b5x P L rg kp oi d v ⟨env,O,vw,n,m⟩:=by
      intro t hn gx ho K' k'
      dsimp only at hn
      refine .inl ?_
      simp (disch:=first | decide | rfl) only [gx,zE,b03,b0w,Nat.reduceEqDiff,reduceIte,Nat.reduceLT,implies_true,forall_const,reduceCtorEq,V.ofValue,V.ofScalar,V.un,V.gd,b1k,aop,aUn,b00,Value.oneCell',List.all_cons,List.all_nil,Bool.and_self,‹Tys _›.h,‹Fc _›.h]
      repeat (refine b4o ?_)
      exact k'):b14 P L rg K (fuel+1) listed ⟨env,O,vw,n,m⟩:=b13 hK kp i d hi hd hf hr ⟨v,hp,b⟩
theorem c0n {P:Program} {L:b5h} {rg:Array Oper} {K:St→Prop} {fuel:Nat} {listed:Array Bool} {env:List (Nat×V)} {O:List Blk} {vw:Bool} {n m:Nat} {oi:Oper} {rest:List Oper} {v:V} (hK:∀s t,EqS s t→K s→K t) (kp:Bool) (i d:Nat)
    (b:b14 P L rg K fuel (listed.setIfInBounds i true) ⟨(d,v)::env,O,vw,n,m⟩) (hi:rg.toList.drop i=oi::rest:=by rfl) (hd:oi.dst=some d:=by rfl) (hf:Region.freeG L kp rg listed i=true:=by kernel_rfl) (hr:(Region.ready .any rg listed).contains i=true:=by kernel_rfl)
    (hp : b5x P L rg kp oi d v ⟨env,O,vw,n,m⟩:=by
      intro t hn gx ho K' k'
      dsimp only at hn
      first
      | refine .inr ⟨?_,_,_,false,rfl,?_,nofun,fun _=>⟨.any,k'⟩⟩
        · simp only [hn,b45,Nat.reduceLT]
        · first | rfl | (simp (disch:=decide) only [gx,zV,b1o,Nat.reduceEqDiff,reduceIte];done)
      | skip
        refine .inl ?_
        simp (disch:=first | decide | rfl) only [gx,zE,zG,b03,b0w,Nat.reduceEqDiff,reduceIte,Nat.reduceLT,implies_true,forall_const,reduceCtorEq,V.ofValue,V.ofScalar,V.un,V.gd,b1o,V.wrap,b1k,aop,aUn,b00,Value.oneCell',List.all_cons,List.all_nil,Bool.and_self,‹Tys _›.h,‹Fc _›.h]
        repeat (refine b4o ?_)
        exact k'):b14 P L rg K (fuel+1) listed ⟨env,O,vw,n,m⟩:=b13 hK kp i d hi hd hf hr ⟨v,hp,b⟩
theorem b0p {P:Program} {L:b5h} {rg:Array Oper} {K:St→Prop} {fuel:Nat} {listed:Array Bool} {env:List (Nat×V)} {O:List Blk} {vw:Bool} {n m:Nat} {oi:Oper} {rest:List Oper} {v:V} (hK:∀s t,EqS s t→K s→K t) (kp:Bool) (i d:Nat)
    (b:b14 P L rg K fuel (listed.setIfInBounds i true) ⟨(d,v)::env,O,vw,n,m⟩) (hi:rg.toList.drop i=oi::rest:=by rfl) (hd:oi.dst=some d:=by rfl) (hf:Region.freeG L kp rg listed i=true:=by kernel_rfl) (hr:(Region.ready .any rg listed).contains i=true:=by kernel_rfl)
    (hp:b5x P L rg kp oi d v ⟨env,O,vw,n,m⟩:=by
      intro t hn gx ho K' k'
      dsimp only at hn
      refine .inl ?_
      simp (disch:=first | decide | rfl) only [gx,zE,zL,zN,b03,b0w,Nat.reduceEqDiff,reduceIte,Nat.reduceLT,implies_true,forall_const,reduceCtorEq,V.ofValue,V.ofScalar,V.un,V.gd,b1k,aop,b3z,Nat.reduceAdd,Nat.reduceLeDiff,Nat.reduceMul,b00,Value.oneCell',List.all_cons,List.all_nil,Bool.and_self,‹Tys _›.h,‹Fc _›.h]
      repeat (refine b4o ?_)
      exact k'):b14 P L rg K (fuel+1) listed ⟨env,O,vw,n,m⟩:=b13 hK kp i d hi hd hf hr ⟨v,hp,b⟩
theorem b0e {P:Program} {L:b5h} {rg:Array Oper} {K:St→Prop} {fuel:Nat} {listed:Array Bool} {env:List (Nat×V)} {O:List Blk} {vw:Bool} {n m:Nat} {oi:Oper} {rest:List Oper} {v:V} (hK:∀s t,EqS s t→K s→K t) (kp:Bool) (i d:Nat)
    (b:b14 P L rg K fuel (listed.setIfInBounds i true) ⟨(d,v)::env,O,vw,n,m⟩) (hi:rg.toList.drop i=oi::rest:=by rfl) (hd:oi.dst=some d:=by rfl) (hf:Region.freeG L kp rg listed i=true:=by kernel_rfl) (hr:(Region.ready .any rg listed).contains i=true:=by kernel_rfl)
    (hp : b5x P L rg kp oi d v ⟨env,O,vw,n,m⟩:=by
      intro t hn gx ho K' k'
      dsimp only at hn
      first
      | refine .inr ⟨?_,_,_,false,rfl,?_,nofun,fun _=>⟨.any,k'⟩⟩
        · simp only [hn,b45,Nat.reduceLT]
        · first | rfl | (simp (disch:=decide) only [gx,zV,b1o,Nat.reduceEqDiff,reduceIte];done)
      | skip
        refine .inl ?_
        simp (disch:=first | decide | rfl) only [gx,zE,zL,zN,b03,b0w,Nat.reduceEqDiff,reduceIte,Nat.reduceLT,implies_true,forall_const,reduceCtorEq,V.ofValue,V.ofScalar,V.un,V.gd,b1o,V.wrap,b1k,aop,b3z,Nat.reduceAdd,Nat.reduceLeDiff,Nat.reduceMul,b00,Value.oneCell',List.all_cons,List.all_nil,Bool.and_self,‹Tys _›.h,‹Fc _›.h]
        repeat (refine b4o ?_)
        exact k'):b14 P L rg K (fuel+1) listed ⟨env,O,vw,n,m⟩:=b13 hK kp i d hi hd hf hr ⟨v,hp,b⟩
theorem b07 {P:Program} {L:b5h} {rg:Array Oper} {K:St→Prop} {fuel:Nat} {listed:Array Bool} {env:List (Nat×V)} {O:List Blk} {vw:Bool} {n m:Nat} {oi:Oper} {rest:List Oper} {v:V} (hK:∀s t,EqS s t→K s→K t) (kp:Bool) (i d:Nat)
    (b:b14 P L rg K fuel (listed.setIfInBounds i true) ⟨(d,v)::env,O,vw,n,m⟩) (hi:rg.toList.drop i=oi::rest:=by rfl) (hd:oi.dst=some d:=by rfl) (hf:Region.freeG L kp rg listed i=true:=by kernel_rfl) (hr:(Region.ready .any rg listed).contains i=true:=by kernel_rfl)
    (hp:b5x P L rg kp oi d v ⟨env,O,vw,n,m⟩:=by
      intro t hn gx ho K' k'
      dsimp only at hn
      first | have r0:=b02 (ho rfl) 0 rfl | have r0:=True.intro
      first | have r1:=b02 (ho rfl) 1 rfl | have r1:=True.intro
      first | have r2:=b02 (ho rfl) 2 rfl | have r2:=True.intro
      first | have r3:=b02 (ho rfl) 3 rfl | have r3:=True.intro
      first | have r4:=b02 (ho rfl) 4 rfl | have r4:=True.intro
      first | have r5:=b02 (ho rfl) 5 rfl | have r5:=True.intro
      refine .inl ?_
      simp (disch:=first | decide | rfl) only [gx,r0,r1,r2,r3,r4,r5,zE,zL,zN,b03,b0w,Nat.reduceEqDiff,reduceIte,Nat.reduceLT,implies_true,forall_const,reduceCtorEq,V.ofValue,V.ofScalar,V.un,V.gd,b1k,aop,List.mem_cons,List.not_mem_nil,or_false,forall_eq_or_imp,forall_eq,b31,b1j,Blk.row,Go.Vm.V.cells,List.forall_mem_map,List.length_map,Int.toNat_natCast,Int.reduceToNat,TypeDesc.slice.injEq,Nat.reduceAdd,Nat.reduceLeDiff,Nat.reduceMul,b00,Value.oneCell',List.all_cons,List.all_nil,Bool.and_self,‹Tys _›.h,‹Fc _›.h]
      repeat (refine b4o ?_)
      exact k'):b14 P L rg K (fuel+1) listed ⟨env,O,vw,n,m⟩:=b13 hK kp i d hi hd hf hr ⟨v,hp,b⟩
theorem b0x {P:Program} {L:b5h} {rg:Array Oper} {K:St→Prop} {fuel:Nat} {listed:Array Bool} {env:List (Nat×V)} {O:List Blk} {vw:Bool} {n m:Nat} {oi:Oper} {rest:List Oper} {v:V} (hK:∀s t,EqS s t→K s→K t) (kp:Bool) (i d:Nat)
    (b:b14 P L rg K fuel (listed.setIfInBounds i true) ⟨(d,v)::env,O,vw,n,m⟩) (hi:rg.toList.drop i=oi::rest:=by rfl) (hd:oi.dst=some d:=by rfl) (hf:Region.freeG L kp rg listed i=true:=by kernel_rfl) (hr:(Region.ready .any rg listed).contains i=true:=by kernel_rfl)
    (hp : b5x P L rg kp oi d v ⟨env,O,vw,n,m⟩:=by
      intro t hn gx ho K' k'
      dsimp only at hn
      first | have r0:=b02 (ho rfl) 0 rfl | have r0:=True.intro
      first | have r1:=b02 (ho rfl) 1 rfl | have r1:=True.intro
      first | have r2:=b02 (ho rfl) 2 rfl | have r2:=True.intro
      first | have r3:=b02 (ho rfl) 3 rfl | have r3:=True.intro
      first | have r4:=b02 (ho rfl) 4 rfl | have r4:=True.intro
      first | have r5:=b02 (ho rfl) 5 rfl | have r5:=True.intro
      first
      | refine .inr ⟨?_,_,_,false,rfl,?_,nofun,fun _=>⟨.any,k'⟩⟩
        · simp only [hn,b45,Nat.reduceLT]
        · first | rfl | (simp (disch:=decide) only [gx,zV,b1o,Nat.reduceEqDiff,reduceIte];done)
      | skip
        refine .inl ?_
        simp (disch:=first | decide | rfl) only [gx,r0,r1,r2,r3,r4,r5,zE,zL,zN,b03,b0w,Nat.reduceEqDiff,reduceIte,Nat.reduceLT,implies_true,forall_const,reduceCtorEq,V.ofValue,V.ofScalar,V.un,V.gd,b1o,V.wrap,b1k,aop,List.mem_cons,List.not_mem_nil,or_false,forall_eq_or_imp,forall_eq,b31,b1j,Blk.row,Go.Vm.V.cells,List.forall_mem_map,List.length_map,Int.toNat_natCast,Int.reduceToNat,TypeDesc.slice.injEq,Nat.reduceAdd,Nat.reduceLeDiff,Nat.reduceMul,b00,Value.oneCell',List.all_cons,List.all_nil,Bool.and_self,‹Tys _›.h,‹Fc _›.h]
        repeat (refine b4o ?_)
        exact k'):b14 P L rg K (fuel+1) listed ⟨env,O,vw,n,m⟩:=b13 hK kp i d hi hd hf hr ⟨v,hp,b⟩
theorem f0y {P:Program} {L:b5h} {rg:Array Oper} {K:St→Prop} {fuel:Nat} {listed:Array Bool} {env:List (Nat×V)} {O:List Blk} {vw:Bool} {n m:Nat} {oi:Oper} {rest:List Oper} {v:V} (hK:∀s t,EqS s t→K s→K t) (kp:Bool) (i d:Nat)
    (b:b14 P L rg K fuel (listed.setIfInBounds i true) ⟨(d,v)::env,O,vw,n,m⟩) (hi:rg.toList.drop i=oi::rest:=by rfl) (hd:oi.dst=some d:=by rfl) (hf:Region.freeG L kp rg listed i=true:=by kernel_rfl) (hr:(Region.ready .any rg listed).contains i=true:=by kernel_rfl)
    (hp:b5x P L rg kp oi d v ⟨env,O,vw,n,m⟩:=by
      intro t hn gx ho K' k'
      dsimp only at hn
      refine .inl ?_
      simp (disch:=first | decide | rfl) only [gx,zE,zL,zN,b03,b0w,Nat.reduceEqDiff,reduceIte,Nat.reduceLT,implies_true,forall_const,reduceCtorEq,V.ofValue,V.ofScalar,V.un,V.gd,b1k,aop,c1j,Int.toNat_natCast,Int.reduceToNat,Nat.reduceAdd,Nat.reduceLeDiff,Nat.reduceMul,b00,Value.oneCell',List.all_cons,List.all_nil,Bool.and_self,‹Tys _›.h,‹Fc _›.h]
      repeat (refine b4o ?_)
      exact k'):b14 P L rg K (fuel+1) listed ⟨env,O,vw,n,m⟩:=b13 hK kp i d hi hd hf hr ⟨v,hp,b⟩
theorem c04 {P:Program} {L:b5h} {rg:Array Oper} {K:St→Prop} {fuel:Nat} {listed:Array Bool} {env:List (Nat×V)} {O:List Blk} {vw:Bool} {n m:Nat} {oi:Oper} {rest:List Oper} {v:V} (hK:∀s t,EqS s t→K s→K t) (kp:Bool) (i d:Nat)
    (b:b14 P L rg K fuel (listed.setIfInBounds i true) ⟨(d,v)::env,O,vw,n,m⟩) (hi:rg.toList.drop i=oi::rest:=by rfl) (hd:oi.dst=some d:=by rfl) (hf:Region.freeG L kp rg listed i=true:=by kernel_rfl) (hr:(Region.ready .any rg listed).contains i=true:=by kernel_rfl)
    (hp : b5x P L rg kp oi d v ⟨env,O,vw,n,m⟩:=by
      intro t hn gx ho K' k'
      dsimp only at hn
      first
      | refine .inr ⟨?_,_,_,false,rfl,?_,nofun,fun _=>⟨.any,k'⟩⟩
        · simp only [hn,b45,Nat.reduceLT]
        · first | rfl | (simp (disch:=decide) only [gx,zV,b1o,Nat.reduceEqDiff,reduceIte];done)
      | skip
        refine .inl ?_
        simp (disch:=first | decide | rfl) only [gx,zE,zL,zN,b03,b0w,Nat.reduceEqDiff,reduceIte,Nat.reduceLT,implies_true,forall_const,reduceCtorEq,V.ofValue,V.ofScalar,V.un,V.gd,b1o,V.wrap,b1k,aop,c1j,Int.toNat_natCast,Int.reduceToNat,Nat.reduceAdd,Nat.reduceLeDiff,Nat.reduceMul,b00,Value.oneCell',List.all_cons,List.all_nil,Bool.and_self,‹Tys _›.h,‹Fc _›.h]
        repeat (refine b4o ?_)
        exact k'):b14 P L rg K (fuel+1) listed ⟨env,O,vw,n,m⟩:=b13 hK kp i d hi hd hf hr ⟨v,hp,b⟩
theorem b1f {P:Program} {L:b5h} {rg:Array Oper} {K:St→Prop} {fuel:Nat} {listed:Array Bool} {env:List (Nat×V)} {O:List Blk} {vw:Bool} {n m:Nat} {oi:Oper} {rest:List Oper} {v:V} (hK:∀s t,EqS s t→K s→K t) (kp:Bool) (i d:Nat)
    (b:b14 P L rg K fuel (listed.setIfInBounds i true) ⟨(d,v)::env,O,vw,n,m⟩) (hi:rg.toList.drop i=oi::rest:=by rfl) (hd:oi.dst=some d:=by rfl) (hf:Region.freeG L kp rg listed i=true:=by kernel_rfl) (hr:(Region.ready .any rg listed).contains i=true:=by kernel_rfl)
    (hp:b5x P L rg kp oi d v ⟨env,O,vw,n,m⟩:=by
      intro t hn gx ho K' k'
      dsimp only at hn
      refine .inl ?_
      simp (disch:=first | decide | rfl) only [gx,zE,zL,zN,b03,b0w,Nat.reduceEqDiff,reduceIte,Nat.reduceLT,implies_true,forall_const,reduceCtorEq,V.ofValue,V.ofScalar,V.un,V.gd,b1k,aop,b9b,Nat.reduceAdd,Nat.reduceLeDiff,Nat.reduceMul,b00,Value.oneCell',List.all_cons,List.all_nil,Bool.and_self,‹Tys _›.h,‹Fc _›.h]
      repeat (refine b4o ?_)
      exact k'):b14 P L rg K (fuel+1) listed ⟨env,O,vw,n,m⟩:=b13 hK kp i d hi hd hf hr ⟨v,hp,b⟩
theorem b7m {P:Program} {L:b5h} {rg:Array Oper} {K:St→Prop} {fuel:Nat} {listed:Array Bool} {env:List (Nat×V)} {O:List Blk} {vw:Bool} {n m:Nat} {oi:Oper} {rest:List Oper} {v:V} (hK:∀s t,EqS s t→K s→K t) (kp:Bool) (i d:Nat)
    (b:b14 P L rg K fuel (listed.setIfInBounds i true) ⟨(d,v)::env,O,vw,n,m⟩) (hi:rg.toList.drop i=oi::rest:=by rfl) (hd:oi.dst=some d:=by rfl) (hf:Region.freeG L kp rg listed i=true:=by kernel_rfl) (hr:(Region.ready .any rg listed).contains i=true:=by kernel_rfl)
    (hp:b5x P L rg kp oi d v ⟨env,O,vw,n,m⟩:=by
      intro t hn gx ho K' k'
      dsimp only at hn
      first | have r0:=b02 (ho rfl) 0 rfl | have r0:=True.intro
      first | have r1:=b02 (ho rfl) 1 rfl | have r1:=True.intro
      first | have r2:=b02 (ho rfl) 2 rfl | have r2:=True.intro
      first | have r3:=b02 (ho rfl) 3 rfl | have r3:=True.intro
      first | have r4:=b02 (ho rfl) 4 rfl | have r4:=True.intro
      first | have r5:=b02 (ho rfl) 5 rfl | have r5:=True.intro
      refine .inl ?_
      simp (disch:=first | decide | rfl) only [gx,r0,r1,r2,r3,r4,r5,zE,zL,zN,b03,b0w,Nat.reduceEqDiff,reduceIte,Nat.reduceLT,implies_true,forall_const,reduceCtorEq,V.ofValue,V.ofScalar,V.un,V.gd,b1k,aop,List.set_cons_zero,List.set_cons_succ,b9x,forall_eq',b6v,c0y,Option.map_none,Option.isNone_none,b1j,Blk.row,TypeDesc.slice.injEq,List.forall_mem_map,List.length_map,Go.Vm.V.cells,Int.toNat_natCast,Int.reduceToNat,←List.map_take,←List.map_drop,List.take_length,Nat.reduceAdd,Nat.reduceLeDiff,Nat.reduceMul,b00,Value.oneCell',List.all_cons,List.all_nil,Bool.and_self,‹Tys _›.h,‹Fc _›.h]
      repeat (refine b4o ?_)
      exact k'):b14 P L rg K (fuel+1) listed ⟨env,O,vw,n,m⟩:=b13 hK kp i d hi hd hf hr ⟨v,hp,b⟩
theorem b4n {P:Program} {L:b5h} {rg:Array Oper} {K:St→Prop} {fuel:Nat} {listed:Array Bool} {env:List (Nat×V)} {O:List Blk} {vw:Bool} {n m:Nat} {oi:Oper} {rest:List Oper} {v:V} (hK:∀s t,EqS s t→K s→K t) (kp:Bool) (i d:Nat)
    (b:b14 P L rg K fuel (listed.setIfInBounds i true) ⟨(d,v)::env,O,vw,n,m⟩) (hi:rg.toList.drop i=oi::rest:=by rfl) (hd:oi.dst=some d:=by rfl) (hf:Region.freeG L kp rg listed i=true:=by kernel_rfl) (hr:(Region.ready .any rg listed).contains i=true:=by kernel_rfl)
    (hp:b5x P L rg kp oi d v ⟨env,O,vw,n,m⟩:=by
      intro t hn gx ho K' k'
      dsimp only at hn
      refine .inl ?_
      simp (disch:=first | decide | rfl) only [gx,zE,zL,zO,zN,b03,b0w,Nat.reduceEqDiff,reduceIte,Nat.reduceLT,implies_true,forall_const,reduceCtorEq,V.ofValue,V.ofScalar,V.un,V.gd,b1k,aop,c8d,if_true,Nat.zero_mul,Nat.one_mul,Nat.mul_one,V.isVal,V.cells,List.mem_cons,List.not_mem_nil,or_false,forall_eq_or_imp,forall_eq,Nat.reduceAdd,Nat.reduceLeDiff,Nat.reduceMul,b00,Value.oneCell',List.all_cons,List.all_nil,‹Tys _›.h,‹Fc _›.h]
      repeat (refine b4o ?_)
      exact k'):b14 P L rg K (fuel+1) listed ⟨env,O,vw,n,m⟩:=b13 hK kp i d hi hd hf hr ⟨v,hp,b⟩
theorem c5y {P:Program} {L:b5h} {rg:Array Oper} {K:St→Prop} {fuel:Nat} {listed:Array Bool} {env:List (Nat×V)} {O:List Blk} {vw:Bool} {n m:Nat} {oi:Oper} {rest:List Oper} {v:V} (hK:∀s t,EqS s t→K s→K t) (kp:Bool) (i d:Nat)
    (b:b14 P L rg K fuel (listed.setIfInBounds i true) ⟨(d,v)::env,O,vw,n,m⟩) (hi:rg.toList.drop i=oi::rest:=by rfl) (hd:oi.dst=some d:=by rfl) (hf:Region.freeG L kp rg listed i=true:=by kernel_rfl) (hr:(Region.ready .any rg listed).contains i=true:=by kernel_rfl)
    (hp : b5x P L rg kp oi d v ⟨env,O,vw,n,m⟩:=by
      intro t hn gx ho K' k'
      dsimp only at hn
      first
      | refine .inr ⟨?_,_,_,false,rfl,?_,nofun,fun _=>⟨.any,k'⟩⟩
        · simp only [hn,b45,Nat.reduceLT]
        · first | rfl | (simp (disch:=decide) only [gx,zV,b1o,Nat.reduceEqDiff,reduceIte];done)
      | skip
        refine .inl ?_
        simp (disch:=first | decide | rfl) only [gx,zE,zL,zO,zN,b03,b0w,Nat.reduceEqDiff,reduceIte,Nat.reduceLT,implies_true,forall_const,reduceCtorEq,V.ofValue,V.ofScalar,V.un,V.gd,b1o,V.wrap,b1k,aop,c8d,if_true,Nat.zero_mul,Nat.one_mul,Nat.mul_one,V.isVal,V.cells,List.mem_cons,List.not_mem_nil,or_false,forall_eq_or_imp,forall_eq,Nat.reduceAdd,Nat.reduceLeDiff,Nat.reduceMul,b00,Value.oneCell',List.all_cons,List.all_nil,‹Tys _›.h,‹Fc _›.h]
        repeat (refine b4o ?_)
        exact k'):b14 P L rg K (fuel+1) listed ⟨env,O,vw,n,m⟩:=b13 hK kp i d hi hd hf hr ⟨v,hp,b⟩
theorem b0t {P:Program} {L:b5h} {rg:Array Oper} {K:St→Prop} {fuel:Nat} {listed:Array Bool} {s:St} {oi:Oper} {rest:List Oper} {B:Prop} (i:Nat) (b:Ho B) (hi:rg.toList.drop i=oi::rest:=by rfl) (hr:Region.ready .any rg listed=[i]:=by kernel_rfl)
    (e:Ho B→(∀K':St→Prop,(∀s,b14 P L rg K fuel (listed.setIfInBounds i true) s→K' s)→b03 P L rg oi s K'):=by
      intro b K k
      simp only [zE,zS,b03,b0w,b0m,Nat.reduceEqDiff,reduceIte,Nat.reduceLT,implies_true,forall_const,reduceCtorEq,V.ofValue,V.ofScalar,V.un,V.gd,b1k,aop,Nat.reduceAdd,b00,Value.oneCell',List.all_cons,List.all_nil,Bool.and_self,‹Tys _›.h,‹Fc _›.h]
      repeat (refine b4o ?_)
      refine k _ ?_
      clear k K
      exact b.h):b14 P L rg K (fuel+1) listed s:=b4r i hi hr (e b)
theorem b2i {P:Program} {L:b5h} {rg:Array Oper} {K:St→Prop} {fuel:Nat} {listed:Array Bool} {s:St} {oi:Oper} {rest:List Oper} {B:Prop} (i:Nat) (b:Ho B) (hi:rg.toList.drop i=oi::rest:=by rfl) (hr:Region.ready .any rg listed=[i]:=by kernel_rfl)
    (e:Ho B→(∀K':St→Prop,(∀s,b14 P L rg K fuel (listed.setIfInBounds i true) s→K' s)→b03 P L rg oi s K'):=by
      intro b K k
      simp only [zE,zS,zJ,zL,zO,zN,b03,b0w,b0m,Nat.reduceEqDiff,reduceIte,Nat.reduceLT,implies_true,forall_const,reduceCtorEq,V.ofValue,V.ofScalar,V.un,V.gd,b1k,aop,b8f,b17,V.isVal,V.cells,b4i,b2k,V.noSl,V.noRef,gt_iff_lt,Nat.reduceAdd,Nat.reduceLeDiff,Nat.reduceMul,b92,b10,b2p,b1j,Blk.row,b4e,Nat.reduceBEq,c8i,b00,Value.oneCell',‹Tys _›.h,‹Fc _›.h]
      repeat (refine b4o ?_)
      refine k _ ?_
      clear k K
      exact b.h):b14 P L rg K (fuel+1) listed s:=b4r i hi hr (e b)
theorem d06 {P:Program} {L:b5h} {rg:Array Oper} {K:St→Prop} {fuel:Nat} {listed:Array Bool} {s:St} {oi:Oper} {rest:List Oper} {B:Prop} (i:Nat) (b:Ho B) (hi:rg.toList.drop i=oi::rest:=by rfl) (hr:Region.ready .any rg listed=[i]:=by kernel_rfl)
    (e:Ho B→(∀K':St→Prop,(∀s,b14 P L rg K fuel (listed.setIfInBounds i true) s→K' s)→b03 P L rg oi s K'):=by
      intro b K k
      simp only [zE,zS,zO,zN,b03,b0w,b0m,Nat.reduceEqDiff,reduceIte,Nat.reduceLT,implies_true,forall_const,reduceCtorEq,V.ofValue,V.ofScalar,V.un,V.gd,b1k,aop,Nat.reduceAdd,Value.oneCell',V.isVal,V.cells,b4i,b2k,V.noSl,V.noRef,List.all_cons,List.all_nil,List.map_cons,List.map_nil,gt_iff_lt,Nat.reduceLeDiff,Nat.reduceMul,b00,‹Tys _›.h,‹Fc _›.h]
      repeat (refine b4o ?_)
      refine k _ ?_
      clear k K
      exact b.h):b14 P L rg K (fuel+1) listed s:=b4r i hi hr (e b)
theorem b12 {P:Program} {L:b5h} {rg:Array Oper} {K:St→Prop} {fuel:Nat} {listed:Array Bool} {s:St} {oi:Oper} {rest:List Oper} {B:Prop} (i:Nat) (b:Ho B) (hi:rg.toList.drop i=oi::rest:=by rfl) (hr:Region.ready .any rg listed=[i]:=by kernel_rfl)
    (e:Ho B→(∀K':St→Prop,(∀s,b14 P L rg K fuel (listed.setIfInBounds i true) s→K' s)→b03 P L rg oi s K'):=by
      intro b K k
      simp only [zE,zO,zN,b03,b0w,b0m,Nat.reduceEqDiff,reduceIte,Nat.reduceLT,implies_true,forall_const,reduceCtorEq,V.ofValue,V.ofScalar,V.un,V.gd,b1k,aop,b7w,f7t,f7l,f7q,f7s,f7o,f7p,f7n,f7r,f7m,f7k,f4f,f37,f4k,List.map_cons,List.map_nil,List.all_cons,List.all_nil,V.isVal,V.cells,b35,b00,b2k,V.noRef,V.noSl,List.mem_cons,List.not_mem_nil,or_false,forall_eq_or_imp,forall_eq,if_true,Option.isSome_some,List.length_cons,List.length_nil,Nat.reduceAdd,Nat.reduceLeDiff,Nat.reduceMul,Value.oneCell',‹Tys _›.h,‹Fc _›.h]
      repeat (refine b4o ?_)
      refine k _ ?_
      clear k K
      exact b.h):b14 P L rg K (fuel+1) listed s:=b4r i hi hr (e b)
theorem b0u {P:Program} {L:b5h} {rg:Array Oper} {K:St→Prop} {fuel:Nat} {listed:Array Bool} {s:St} {oi:Oper} {rest:List Oper} {B:Prop} (i:Nat) (b:Ho B) (hi:rg.toList.drop i=oi::rest:=by rfl) (hr:Region.ready .any rg listed=[i]:=by kernel_rfl)
    (e:Ho B→(∀K':St→Prop,(∀s,b14 P L rg K fuel (listed.setIfInBounds i true) s→K' s)→b03 P L rg oi s K'):=by
      intro b K k
      simp only [zE,zL,zO,zN,b03,b0w,b0m,Nat.reduceEqDiff,reduceIte,Nat.reduceLT,implies_true,forall_const,reduceCtorEq,V.ofValue,V.ofScalar,V.un,V.gd,b1k,aop,c4r,beq_self_eq_true,List.nodup_cons,List.mem_singleton,forall_eq',List.size_toArray,List.getD_eq_getElem?_getD,Array.getD_eq_getD_getElem?,Option.getD_some,b6t,c6h,c5r,b3o,b92,b10,b2p,b1j,Blk.row,b4e,V.isSub,V.noSl,Value.cells,Option.toList,List.forall_mem_map,List.length_map,List.all_cons,List.all_nil,List.isEmpty_nil,List.isEmpty_cons,List.not_mem_nil,List.nodup_nil,c4o,d1a,c3t,c9q,c9a,b85,c09,List.mem_cons,or_false,forall_eq_or_imp,forall_eq,List.set_cons_zero,List.set_cons_succ,List.length_append,Go.Vm.V.cells,Nat.reduceAdd,Nat.reduceLeDiff,Nat.reduceMul,b00,Value.oneCell',‹Tys _›.h,‹Fc _›.h]
      repeat (refine b4o ?_)
      refine k _ ?_
      clear k K
      exact b.h):b14 P L rg K (fuel+1) listed s:=b4r i hi hr (e b)
theorem b2m {P:Program} {L:b5h} {rg:Array Oper} {K:St→Prop} {fuel:Nat} {listed:Array Bool} {s:St} {oi:Oper} {rest:List Oper} {B:Prop} (i:Nat) (b:Ho B) (hi:rg.toList.drop i=oi::rest:=by rfl) (hr:Region.ready .any rg listed=[i]:=by kernel_rfl)
    (e:Ho B→(Region.ready .any rg listed=[i])→(rg.toList.drop i=oi::rest)→b14 P L rg K (fuel+1) listed s:=by
      intro b hr hi
      first
      | refine b2u _ _ _ _ hi rfl (Nat.le_of_ble_eq_true rfl) hr rfl ?_ ?_
        · first | rfl | (simp only [zV,b1o,Nat.reduceEqDiff,reduceIte];done)
        simp only [zW,b0m,Nat.reduceEqDiff,reduceIte]
        exact b.h
      | skip
        refine b4r _ hi hr ?_
        intro K k
        simp only [zE,zO,zV,zN,b03,b0w,b0m,Nat.reduceEqDiff,reduceIte,Nat.reduceLT,implies_true,forall_const,reduceCtorEq,V.ofValue,V.ofScalar,V.un,V.gd,b1o,V.wrap,b1k,aop,b7w,f7t,f7l,f7q,f7s,f7o,f7p,f7n,f7r,f7m,f7k,f4f,f37,f4k,List.map_cons,List.map_nil,List.all_cons,List.all_nil,V.isVal,V.cells,b35,b00,b2k,V.noRef,V.noSl,List.mem_cons,List.not_mem_nil,or_false,forall_eq_or_imp,forall_eq,if_true,Option.isSome_some,List.length_cons,List.length_nil,Nat.reduceAdd,Nat.reduceLeDiff,Nat.reduceMul,Value.oneCell',‹Tys _›.h,‹Fc _›.h]
        repeat (refine b4o ?_)
        refine k _ ?_
        clear k K
        exact b.h):b14 P L rg K (fuel+1) listed s:=e b hr hi
theorem zoc {P:Program} {L:b5h} {rg:Array Oper} {K:St→Prop} {fuel:Nat} {listed:Array Bool} {s:St} {oi:Oper} {rest:List Oper} {B:Prop} {C:Prop} (i:Nat) (con:C) (b:Ho B) (hi:rg.toList.drop i=oi::rest:=by rfl) (hr:Region.ready .any rg listed=[i]:=by kernel_rfl)
    (e:C→Ho B→(∀K':St→Prop,(∀s,b14 P L rg K fuel (listed.setIfInBounds i true) s→K' s)→b03 P L rg oi s K'):=by
      intro con b K k
      simp only [zE,zM,b03,b0w,b0m,Nat.reduceEqDiff,reduceIte,Nat.reduceLT,implies_true,forall_const,reduceCtorEq,V.ofValue,V.ofScalar,V.un,V.gd,b1k,b3s,b4p,‹Tys _›.h,‹Fc _›.h]
      repeat (refine f3t ?_)
      refine b4a con (by first | rfl | (simp only [b1l,b15,b1g,b06,b2j,Option.map_some,idx,b1j,List.getElem?_cons_zero,List.getElem?_cons_succ,Option.bind_some,Blk.row,b0v,b09,b1d,b1b,b1c,b1e,cond_true,List.map_take];done) | (simp [b1l,b15,b1g,b06,b2j,idx,b1j,Blk.row,b0v,b09,b1d,b1b,b1c,b1e,Nat.beq_refl];done)) (by first | exact .inl ⟨rfl,by simp [Blk.kindIs,b2g,b44]⟩ | exact .inr (by simp [V.cold])) ?_
      refine k _ ?_
      clear k K
      simp only [zY,zW,b0m,Nat.reduceEqDiff,reduceIte,V.ren,V.renL,rho,Nat.reduceAdd]
      exact b.h):b14 P L rg K (fuel+1) listed s:=b4r i hi hr (e con b)
theorem d60 {P:Program} {L:b5h} {rg:Array Oper} {K:St→Prop} {fuel:Nat} {listed:Array Bool} {s:St} {oi:Oper} {rest:List Oper} {B:Prop} {C:Prop} (i:Nat) (con:C) (b:Ho B) (hi:rg.toList.drop i=oi::rest:=by rfl) (hr:Region.ready .any rg listed=[i]:=by kernel_rfl)
    (e:C→Ho B→(Region.ready .any rg listed=[i])→(rg.toList.drop i=oi::rest)→b14 P L rg K (fuel+1) listed s:=by
      intro con b hr hi
      first
      | refine b2u _ _ _ _ hi rfl (Nat.le_of_ble_eq_true rfl) hr rfl ?_ ?_
        · first | rfl | (simp only [zV,b1o,Nat.reduceEqDiff,reduceIte];done)
        simp only [zW,b0m,Nat.reduceEqDiff,reduceIte]
        exact b.h
      | skip
        refine b4r _ hi hr ?_
        intro K k
        simp only [zE,zG,b03,b0w,b0m,Nat.reduceEqDiff,reduceIte,Nat.reduceLT,implies_true,forall_const,reduceCtorEq,V.ofValue,V.ofScalar,V.un,V.gd,b1o,‹Tys _›.h,‹Fc _›.h]
        simp only [zM,zW,b1k,b3s,b4p,b0m,Nat.reduceEqDiff,reduceIte,V.ofValue,V.ofScalar,V.un,V.gd,and_true,true_and,implies_true,and_self,decide_eq_true_eq]
        first | refine Exists.imp (fun r h=>h) (c0v con (by first | rfl | (simp only [b1l,b15,b1g,b06,b2j,Option.map_some,idx,b1j,List.getElem?_cons_zero,List.getElem?_cons_succ,Option.bind_some,Blk.row,b0v,b09,b1d,b1b,b1c,b1e,cond_true,List.map_take];done) | (simp [b1l,b15,b1g,b06,b2j,idx,b1j,Blk.row,b0v,b09,b1d,b1b,b1c,b1e,Nat.beq_refl];done)) rfl rfl ?_) | refine Exists.imp (fun r h=>h) (c0x (fun hg=>con) (by first | rfl | (simp only [b1l,b15,b1g,b06,b2j,Option.map_some,idx,b1j,List.getElem?_cons_zero,List.getElem?_cons_succ,Option.bind_some,Blk.row,b0v,b09,b1d,b1b,b1c,b1e,cond_true,List.map_take];done) | (simp [b1l,b15,b1g,b06,b2j,idx,b1j,Blk.row,b0v,b09,b1d,b1b,b1c,b1e,Nat.beq_refl];done)) rfl rfl ?_) | refine Exists.imp (fun r h=>h) (c2a (by first | (intros;trivial) | (intros;simp_all;done)) (fun hg=>con) (by first | rfl | (simp only [b1l,b15,b1g,b06,b2j,Option.map_some,idx,b1j,List.getElem?_cons_zero,List.getElem?_cons_succ,Option.bind_some,Blk.row,b0v,b09,b1d,b1b,b1c,b1e,cond_true,List.map_take];done) | (simp [b1l,b15,b1g,b06,b2j,idx,b1j,Blk.row,b0v,b09,b1d,b1b,b1c,b1e,Nat.beq_refl];done)) rfl rfl ?_)
        refine k _ ?_
        clear k K
        exact b.h):b14 P L rg K (fuel+1) listed s:=e con b hr hi
theorem f7j {P:Program} {L:b5h} {rg:Array Oper} {K:St→Prop} {fuel:Nat} {listed:Array Bool} {s:St} {oi:Oper} {rest:List Oper} {B:Prop} {C:Prop} (i:Nat) (con:C) (b:Ho B) (hi:rg.toList.drop i=oi::rest:=by rfl) (hr:Region.ready .any rg listed=[i]:=by kernel_rfl)
    (e:C→Ho B→(Region.ready .any rg listed=[i])→(rg.toList.drop i=oi::rest)→b14 P L rg K (fuel+1) listed s:=by
      intro con b hr hi
      first
      | refine b2u _ _ _ _ hi rfl (Nat.le_of_ble_eq_true rfl) hr rfl ?_ ?_
        · first | rfl | (simp only [zV,b1o,Nat.reduceEqDiff,reduceIte];done)
        simp only [zW,b0m,Nat.reduceEqDiff,reduceIte]
        exact b.h
      | skip
        refine b4r _ hi hr ?_
        intro K k
        simp only [zE,zG,b03,b0w,b0m,Nat.reduceEqDiff,reduceIte,Nat.reduceLT,implies_true,forall_const,reduceCtorEq,V.ofValue,V.ofScalar,V.un,V.gd,b1o,‹Tys _›.h,‹Fc _›.h]
        simp only [zM,zW,b1k,b3s,b4p,b0m,Nat.reduceEqDiff,reduceIte,V.ofValue,V.ofScalar,V.un,V.gd,and_true,true_and,implies_true,and_self,decide_eq_true_eq]
        first | refine Exists.imp (fun r h=>h) (c0v con (by first | rfl | (simp only [b1l,b15,b1g,b06,b2j,Option.map_some,idx,b1j,List.getElem?_cons_zero,List.getElem?_cons_succ,Option.bind_some,Blk.row,b0v,b09,b1d,b1b,b1c,b1e,cond_true,List.map_take,‹Caps _›.cc,‹Caps _›.ca];done) | (simp [b1l,b15,b1g,b06,b2j,idx,b1j,Blk.row,b0v,b09,b1d,b1b,b1c,b1e,Nat.beq_refl,‹Caps _›.cc,‹Caps _›.ca];done)) rfl rfl ?_) | refine Exists.imp (fun r h=>h) (c0x (fun hg=>con) (by first | rfl | (simp only [b1l,b15,b1g,b06,b2j,Option.map_some,idx,b1j,List.getElem?_cons_zero,List.getElem?_cons_succ,Option.bind_some,Blk.row,b0v,b09,b1d,b1b,b1c,b1e,cond_true,List.map_take,‹Caps _›.cc,‹Caps _›.ca];done) | (simp [b1l,b15,b1g,b06,b2j,idx,b1j,Blk.row,b0v,b09,b1d,b1b,b1c,b1e,Nat.beq_refl,‹Caps _›.cc,‹Caps _›.ca];done)) rfl rfl ?_) | refine Exists.imp (fun r h=>h) (c2a (by first | (intros;trivial) | (intros;simp_all;done)) (fun hg=>con) (by first | rfl | (simp only [b1l,b15,b1g,b06,b2j,Option.map_some,idx,b1j,List.getElem?_cons_zero,List.getElem?_cons_succ,Option.bind_some,Blk.row,b0v,b09,b1d,b1b,b1c,b1e,cond_true,List.map_take,‹Caps _›.cc,‹Caps _›.ca];done) | (simp [b1l,b15,b1g,b06,b2j,idx,b1j,Blk.row,b0v,b09,b1d,b1b,b1c,b1e,Nat.beq_refl,‹Caps _›.cc,‹Caps _›.ca];done)) rfl rfl ?_)
        refine k _ ?_
        clear k K
        exact b.h):b14 P L rg K (fuel+1) listed s:=e con b hr hi
end Go.Vm
namespace Go.Vm
open Go
def f8m (o:Oper):Nat:=(match o.op with
  | .move _=>0
  | .assign _=>2
  | .pick _ _ _=>4
  | .alloc _=>6
  | .box _ _=>8
  | .build _ _=>10
  | .buildSlice _ _ _=>12
  | .load _ _=>14
  | .store _ _ _=>16
  | .nilCheck _=>18
  | .unOp _ _ _=>26
  | .convert _ _ _=>28
  | .makeSlice _ _ _=>30
  | .slice _ _ _ _ _=>32
  | .fieldAddr _ _ _=>34
  | .field _ _ _=>36
  | .indexAddr _ _ _=>38
  | .index _ _ _=>40
  | .extract _ _=>42
  | .makeFunc _ _ _=>56
  | .binOp b _ _ y _=>(match y with
    | .const (.slice _ _ _)=>90
    | _=>match b with
      | .add | .sub | .mul | .quo=>22
      | _=>20)
  | .call c=>(match c.callee with
    | .builtin .len=>44
    | .builtin .append=>46
    | .builtin .max=>48
    | .builtin .min=>50
    | .builtin .copy=>52
    | .builtin .clear=>54
    | _=>60)
  | _=>90)+(match o.guard with
  | none=>0
  | _=>1)
theorem b50 {P:Program} {L:b5h} {rg:Array Oper} {K:St→Prop} {o:Oper} {rest:List Oper} {s:St} (n:Nat) (hn:f8m o=n) (h:d7f P L rg K (o::rest) s):d7f P L rg K (o::rest) s:=h
structure Ks (ks:List Nat):Prop where
  t:True
theorem c3q {P:Program} {L:b5h} {m:Nat} {Q:AEx→St→Prop} {s:St} {id:Nat} {ops:Array Oper} {y:Code} {ks:List Nat} (_:Ks ks)
    (h:∀K:St→Prop,(∀s,awp P L m y Q (s.keep ks)→K s)→d7f P L ops K ops.toList s):awp P L m (.seq (.region id ops false) y) Q s:=b4y ks h
theorem rA {R:St→Prop} {Q:AEx→St→Prop} {x:AEx} {s:St} (h:∀s,R s→Q x s) (g:R s):Q x s:=h s g
theorem eA {R:Nat→St→Prop} {Q:AEx→St→Prop} {i:Nat} {s:St} (h:∀i s,R i s→Q (.exit i) s) (g:R i s):Q (.exit i) s:=h i s g
theorem eB {R:Nat→St→Prop} {Q:AEx→St→Prop} {i j:Nat} {s:St} (h:∀i s,i≠j→R i s→Q (.exit i) s) (hi:i≠j) (g:R i s):Q (.exit i) s:=h i s hi g
theorem nA {m:Nat} {ks:List Nat} {A:St→Prop} {Q:AEx→St→Prop} {s:St} (_:Ks ks) (h:∀s s1,b5i m s s1→A s1→Q .normal s) (g:A (s.keep ks)):Q .normal s:=h _ _ (b0f ks s) g
theorem zz {A B:Prop} (b:Ho B) (e:Ho B→A:=by
  intro b
  repeat (first
    | (refine b50 0 rfl ?_;refine b6n ⟨?_⟩)
    | (refine b50 14 rfl ?_;refine d5j ⟨?_⟩)
    | (refine b50 20 rfl ?_;refine f46 ⟨?_⟩)
    | (refine b50 2 rfl ?_;refine b30 ⟨?_⟩)
    | (refine b50 34 rfl ?_;refine c00 ⟨?_⟩)
    | (refine b50 38 rfl ?_;refine b6a ⟨?_⟩)
    | (refine b50 16 rfl ?_;refine f41 ⟨?_⟩)
    | (refine b50 42 rfl ?_;refine b9j ⟨?_⟩)
    | (refine b50 44 rfl ?_;refine f75 ⟨?_⟩)
    | (refine b50 22 rfl ?_;refine d49 ⟨?_⟩)
    | (refine b50 28 rfl ?_;refine c56 ⟨?_⟩)
    | (refine b50 26 rfl ?_;refine f5u ⟨?_⟩)
    | (refine b50 32 rfl ?_;refine f7c ⟨?_⟩)
    | (refine b50 6 rfl ?_;refine f4z ⟨?_⟩)
    | (refine b50 8 rfl ?_;refine f8p ⟨?_⟩)
    | (refine b50 10 rfl ?_;refine f0r ⟨?_⟩)
    | (refine b50 12 rfl ?_;refine b9d ⟨?_⟩)
    | (refine b50 46 rfl ?_;refine d52 ⟨?_⟩)
    | (refine b50 4 rfl ?_;refine c81 ⟨?_⟩)
    | (refine b50 18 rfl ?_;refine c7n ⟨?_⟩)
    | (refine b50 30 rfl ?_;refine d8b ⟨?_⟩)
    | (refine b50 36 rfl ?_;refine zField ⟨?_⟩)
    | (refine b50 40 rfl ?_;refine f69 ⟨?_⟩)
    | (refine b50 48 rfl ?_;refine f8r ⟨?_⟩)
    | (refine b50 50 rfl ?_;refine zMin ⟨?_⟩)
    | (refine b50 52 rfl ?_;refine f77 ⟨?_⟩)
    | (refine b50 54 rfl ?_;refine zClear ⟨?_⟩)
    | (refine b50 56 rfl ?_;refine f0w ⟨?_⟩)
    | (refine b50 1 rfl ?_;refine d6s ⟨?_⟩)
    | (refine b50 15 rfl ?_;refine f0t ⟨?_⟩)
    | (refine b50 21 rfl ?_;refine c4v ⟨?_⟩)
    | (refine b50 3 rfl ?_;refine zgAssign ⟨?_⟩)
    | (refine b50 35 rfl ?_;refine c7t ⟨?_⟩)
    | (refine b50 39 rfl ?_;refine d5d ⟨?_⟩)
    | (refine b50 17 rfl ?_;refine zgStore ⟨?_⟩)
    | (refine b50 43 rfl ?_;refine zgExtract ⟨?_⟩)
    | (refine b50 45 rfl ?_;refine f6d ⟨?_⟩)
    | (refine b50 23 rfl ?_;refine f35 ⟨?_⟩)
    | (refine b50 29 rfl ?_;refine zgConvert ⟨?_⟩)
    | (refine b50 27 rfl ?_;refine c8f ⟨?_⟩)
    | (refine b50 33 rfl ?_;refine zgSlice ⟨?_⟩)
    | (refine b50 7 rfl ?_;refine zgAlloc ⟨?_⟩)
    | (refine b50 9 rfl ?_;refine zgBox ⟨?_⟩)
    | (refine b50 11 rfl ?_;refine zgBuild ⟨?_⟩)
    | (refine b50 13 rfl ?_;refine zgBuildSlice ⟨?_⟩)
    | (refine b50 47 rfl ?_;refine zgAppend ⟨?_⟩)
    | (refine b50 5 rfl ?_;refine f5c ⟨?_⟩)
    | (refine b50 19 rfl ?_;refine d8h ⟨?_⟩)
    | (refine b50 31 rfl ?_;refine zgMakeSlice ⟨?_⟩)
    | (refine b50 37 rfl ?_;refine zgField ⟨?_⟩)
    | (refine b50 41 rfl ?_;refine f54 ⟨?_⟩)
    | (refine b50 49 rfl ?_;refine zgMax ⟨?_⟩)
    | (refine b50 51 rfl ?_;refine zgMin ⟨?_⟩)
    | (refine b50 53 rfl ?_;refine zgCopy ⟨?_⟩)
    | (refine b50 55 rfl ?_;refine zgClear ⟨?_⟩)
    | (refine b50 57 rfl ?_;refine d9a ⟨?_⟩))
  exact b.h):A:=e b
theorem zr {A B:Prop} (b:Ho B) (e:Ho B→A:=by
  intro b
  refine f65 ?_
  repeat (refine rA (by assumption) ?_)
  refine zf ⟨?_⟩
  exact b.h):A:=e b
theorem zn (ks:List Nat) {A B:Prop} (b:Ho B) (e:Ks ks→Ho B→A:=by
  intro q b
  first | refine c9s ?_ | refine f40 ?_ | skip
  repeat (first | refine rA (by assumption) ?_ | refine eA (by assumption) ?_ | refine eB (by assumption) (by decide) ?_)
  refine nA q (by assumption) ?_
  simp only [b0s,b0k,b0h,b0i,b0n,Nat.reduceEqDiff,reduceIte]
  exact b.h):A:=e ⟨trivial⟩ b
theorem zx {A B:Prop} (b:Ho B) (e:Ho B→A:=by
  intro b
  first | refine c9s ?_ | refine f40 ?_
  repeat (first | refine rA (by assumption) ?_ | refine eA (by assumption) ?_ | refine eB (by assumption) (by decide) ?_)
  exact b.h):A:=e b
theorem yR (ks:List Nat) {A B:Prop} (b:Ho B) (e:Ks ks→Ho B→A:=by
  intro q b
  refine c3q q ?_
  intro K k
  refine zz ⟨?_⟩
  refine k _ ?_
  clear k K
  simp only [b0s,b0k,b0h,b0i,b0n,Nat.reduceEqDiff,reduceIte]
  exact b.h):A:=e ⟨trivial⟩ b
theorem yQ (ks:List Nat) {A B:Prop} (b:Ho B) (e:Ks ks→Ho B→A:=by
  intro q b
  refine b4c ?_
  intro K k
  refine zz ⟨?_⟩
  refine k _ ?_
  clear k K
  repeat (first | refine rA (by assumption) ?_ | refine eA (by assumption) ?_ | refine eB (by assumption) (by decide) ?_)
  refine nA q (by assumption) ?_
  simp only [b0s,b0k,b0h,b0i,b0n,Nat.reduceEqDiff,reduceIte]
  exact b.h):A:=e ⟨trivial⟩ b
theorem yV {A B:Prop} (b:Ho B) (e:Ho B→A:=by
  intro b
  refine b4c ?_
  intro K k
  refine zz ⟨?_⟩
  refine k _ ?_
  clear k K
  repeat (first | refine rA (by assumption) ?_ | refine eA (by assumption) ?_ | refine eB (by assumption) (by decide) ?_)
  exact b.h):A:=e b
theorem yRc (ks:List Nat) {C0 A B:Prop} (con0:C0) (b:Ho B) (e:Ks ks→C0→Ho B→A:=by
  intro q con0 b
  refine c3q q ?_
  intro K k
  refine zz ⟨?_⟩
  refine zc con0 ⟨?_⟩
  refine zz ⟨?_⟩
  refine k _ ?_
  clear k K
  simp only [b0s,b0k,b0h,b0i,b0n,Nat.reduceEqDiff,reduceIte]
  exact b.h):A:=e ⟨trivial⟩ con0 b
theorem yRg (ks:List Nat) {C0 A B:Prop} (con0:C0) (b:Ho B) (e:Ks ks→C0→Ho B→A:=by
  intro q con0 b
  refine c3q q ?_
  intro K k
  refine zz ⟨?_⟩
  refine zgc con0 ⟨?_⟩
  refine zz ⟨?_⟩
  refine k _ ?_
  clear k K
  simp only [b0s,b0k,b0h,b0i,b0n,Nat.reduceEqDiff,reduceIte]
  exact b.h):A:=e ⟨trivial⟩ con0 b
theorem yRl (ks:List Nat) {C0 A B:Prop} (con0:C0) (b:Ho B) (e:Ks ks→C0→Ho B→A:=by
  intro q con0 b
  refine c3q q ?_
  intro K k
  refine zz ⟨?_⟩
  refine zcl con0 ⟨?_⟩
  refine zz ⟨?_⟩
  refine k _ ?_
  clear k K
  simp only [b0s,b0k,b0h,b0i,b0n,Nat.reduceEqDiff,reduceIte]
  exact b.h):A:=e ⟨trivial⟩ con0 b
theorem f8d (ks:List Nat) {C0 C1 A B:Prop} (con0:C0) (con1:C1) (b:Ho B) (e:Ks ks→C0→C1→Ho B→A:=by
  intro q con0 con1 b
  refine c3q q ?_
  intro K k
  refine zz ⟨?_⟩
  refine zc con0 ⟨?_⟩
  refine zz ⟨?_⟩
  refine zc con1 ⟨?_⟩
  refine zz ⟨?_⟩
  refine k _ ?_
  clear k K
  simp only [b0s,b0k,b0h,b0i,b0n,Nat.reduceEqDiff,reduceIte]
  exact b.h):A:=e ⟨trivial⟩ con0 con1 b
theorem f4g (ks:List Nat) {C0 C1 A B:Prop} (con0:C0) (con1:C1) (b:Ho B) (e:Ks ks→C0→C1→Ho B→A:=by
  intro q con0 con1 b
  refine c3q q ?_
  intro K k
  refine zz ⟨?_⟩
  refine zc con0 ⟨?_⟩
  refine zz ⟨?_⟩
  refine zgc con1 ⟨?_⟩
  refine zz ⟨?_⟩
  refine k _ ?_
  clear k K
  simp only [b0s,b0k,b0h,b0i,b0n,Nat.reduceEqDiff,reduceIte]
  exact b.h):A:=e ⟨trivial⟩ con0 con1 b
theorem f8e (ks:List Nat) {C0 C1 A B:Prop} (con0:C0) (con1:C1) (b:Ho B) (e:Ks ks→C0→C1→Ho B→A:=by
  intro q con0 con1 b
  refine c3q q ?_
  intro K k
  refine zz ⟨?_⟩
  refine zgc con0 ⟨?_⟩
  refine zz ⟨?_⟩
  refine zgc con1 ⟨?_⟩
  refine zz ⟨?_⟩
  refine k _ ?_
  clear k K
  simp only [b0s,b0k,b0h,b0i,b0n,Nat.reduceEqDiff,reduceIte]
  exact b.h):A:=e ⟨trivial⟩ con0 con1 b
theorem c7e (ks:List Nat) {C0 C1 C2 A B:Prop} (con0:C0) (con1:C1) (con2:C2) (b:Ho B) (e:Ks ks→C0→C1→C2→Ho B→A:=by
  intro q con0 con1 con2 b
  refine c3q q ?_
  intro K k
  refine zz ⟨?_⟩
  refine zc con0 ⟨?_⟩
  refine zz ⟨?_⟩
  refine zgc con1 ⟨?_⟩
  refine zz ⟨?_⟩
  refine zgc con2 ⟨?_⟩
  refine zz ⟨?_⟩
  refine k _ ?_
  clear k K
  simp only [b0s,b0k,b0h,b0i,b0n,Nat.reduceEqDiff,reduceIte]
  exact b.h):A:=e ⟨trivial⟩ con0 con1 con2 b
theorem yR3 (ks:List Nat) {C0 A B:Prop} (con0:C0) (b:Ho B) (e:Ks ks→C0→Ho B→A:=by
  intro q con0 b
  refine c3q q ?_
  intro K k
  refine zz ⟨?_⟩
  refine f8k con0 ⟨?_⟩
  refine zz ⟨?_⟩
  refine k _ ?_
  clear k K
  simp only [b0s,b0k,b0h,b0i,b0n,Nat.reduceEqDiff,reduceIte]
  exact b.h):A:=e ⟨trivial⟩ con0 b
theorem yQc (ks:List Nat) {C0 A B:Prop} (con0:C0) (b:Ho B) (e:Ks ks→C0→Ho B→A:=by
  intro q con0 b
  refine b4c ?_
  intro K k
  refine zz ⟨?_⟩
  refine zc con0 ⟨?_⟩
  refine zz ⟨?_⟩
  refine k _ ?_
  clear k K
  repeat (first | refine rA (by assumption) ?_ | refine eA (by assumption) ?_ | refine eB (by assumption) (by decide) ?_)
  refine nA q (by assumption) ?_
  simp only [b0s,b0k,b0h,b0i,b0n,Nat.reduceEqDiff,reduceIte]
  exact b.h):A:=e ⟨trivial⟩ con0 b
theorem yVc {C0 A B:Prop} (con0:C0) (b:Ho B) (e:C0→Ho B→A:=by
  intro con0 b
  refine b4c ?_
  intro K k
  refine zz ⟨?_⟩
  refine zc con0 ⟨?_⟩
  refine zz ⟨?_⟩
  refine k _ ?_
  clear k K
  repeat (first | refine rA (by assumption) ?_ | refine eA (by assumption) ?_ | refine eB (by assumption) (by decide) ?_)
  exact b.h):A:=e con0 b
end Go.Vm
