/- The value machine, part 7. -/
import Derived.Sort.Grow
import Derived.Lib.LaidTab
import Derived.Lib.Join
import Derived.Below
import Derived.Deep.Draws
import Derived.Test.YtmbbjhopngejaaaGreatUmF
set_option linter.all false
open Go.Vm.V renaming cells → Za, onlyL → Zc, renL → Zf, ren → Zr, only → Zt, noSl → Zx
open List renaming range → Zb, getD_eq_getElem?_getD → Zg, length_eq_zero_iff → Zh, getElem?_cons_succ → Zi, take_append_drop → Zk, getElem?_toArray → Zl, getElem?_eq_none → Zm, nil_append → Zo, ext_getElem? → Zs, getElem?_cons_zero → Zu, take_of_length_le → Zy, length_map → Zz, nodup_cons → Z0, length_nil → Z1, mem_filter → Z2, getElem?_set_ne → Z3, map_cons → Z4, map_nil → Z6, mem_map → Z7
open Bool renaming not_eq_true' → Zd, or_eq_true → Ze, and_eq_true → Zn
open Nat renaming eq_of_beq_eq_true → Zj, blt → Zp, zero_add → Z5, beq → Z8
open Go.Value renaming int → Zq
open Option renaming bind_some → Zv, getD_some → Zw
namespace Go.Vm
open Go
section
variable {α:Type} {f:α→V}
end
end Go.Vm
namespace Go.Vm
open Go
end Go.Vm
namespace Go.Vm
open Go
theorem d9g {w μ}:∀(ns:List Int) {vs:List Value} {bl:List Nat},RepL w μ ((ns.map (V.int .i64)).flatMap Za) vs bl→vs=ns.map (Zq .i64)
  | [],vs,bl,h=>by cases h;rfl
  | n ::ns,vs,bl,h=>by
    simp only [Z4,List.flatMap_cons,Za,List.cons_append,Zo] at h;cases h with
    | cons _ x bl _ xs bl' h1 h2=>
      have:=d9g ns h2;rw [this,h1.int_inv];rfl
theorem d85 {w μ}:∀ns:List Int,RepL w μ ((ns.map (V.int .i64)).flatMap Za) (ns.map (Zq .i64)) []
  | []=>.nil
  | n::ns=>by
    simp only [Z4,List.flatMap_cons,Za,List.cons_append,Zo];exact .cons _ _ [] _ _ [] (.int _ _) (d85 ns)
def b3s (zs:List Int):List Int:=zs.mergeSort fun x y=>decide (x≤y)
theorem c1l (zs:List Int):(b3s zs).length=zs.length:=List.length_mergeSort ..
theorem f6d {P:Program} {f:FuncId} (zs:List Int) (hf:∃fn,P.funcs[f]? =some fn∧(fn.name == "runtime.NumGoroutine")=false∧fn.body.isNone=false) (hne:zs≠[])
    (h:∀(blk off cap:Nat) (w:World),Sort.Holds (Zq .i64) w blk off zs.toArray→blk < w.heap.size→Calls P f #[.slice (some ⟨blk,off,none⟩) zs.length cap] w fun e w'=>
      e=.returned (.tuple #[])∧∃n os,w'=Sort.grow (Sort.putRow (Zq .i64) (Sort.ahead w n) blk off (b3s zs).toArray) os) :
    Con P f [.ref 0] [.arr (zs.map (V.int .i64)) .flat] (.tup []) [.arr ((b3s zs).map (V.int .i64)) .flat]:=by
  refine ⟨hf,fun w vals μ ow vis hi=> ?_⟩;obtain ⟨l,hl,hn,h3⟩:=hi.blk 0 _ rfl;rcases h3 with ⟨_,h3⟩ | ⟨hreal,hroot,bl,⟨c1,c2,c3,c,t,vs,c4,c5,c6,c7,c8⟩,hk,hne'⟩
  · grind
  have hbl:bl=[]:=hk;subst hbl;have hvs:=d9g zs c6;subst hvs;have hsz:l.sz=1:=by
    obtain ⟨z,hz⟩:=List.exists_mem_of_ne_nil _ hne;have:=c3 (.int .i64 z) (qmd.2 ⟨z,hz,rfl⟩);exact this.symm
  have hn':l.n=zs.length:=by grind
  have h0:vals.getD 0 undef=.slice (some ⟨l.b,l.off,none⟩) zs.length l.cap:=by
    obtain ⟨b0,r0,_⟩:=hi.arg 0 _ rfl;generalize vals.getD 0 undef=x at r0⊢;cases r0 with
    | ref _ l2 _ hm hd=>
      rw [hl] at hm;cases hm;rw [←hn'];cases hd with
      | real _=>rfl
      | nil a hr _=>grind
  have hv:vals=#[.slice (some ⟨l.b,l.off,none⟩) zs.length l.cap]:=by
    have hs:vals.size=1:=hi.sz;apply Array.ext
    · omega
    simp_all
  subst hv;have hlt:l.b < w.heap.size:=by
    grind
  have hH:Sort.Holds (Zq .i64) w l.b l.off zs.toArray:=by
    intro j hj;have hj':j < zs.length:=by omega
    refine ⟨?_,by simp [World.frozen?,c4]⟩;rw [cell_of_row w l.b _ c t _ c4,c8 j (.int .i64 zs[j]) (by simp)]
    grind
  refine (h l.b l.off l.cap w hH hlt).mono ?_;rintro e w' ⟨rfl,n,os,rfl⟩;let enc:Int→Value:=Zq .i64;let d:=(b3s zs).toArray;have hother:∀b,b < w.heap.size→b≠l.b→(Sort.grow (Sort.putRow enc (Sort.ahead w n) l.b l.off d) os).heap[b]? =w.heap[b]? :=by
    intro b hb hne;rw [Sort.heap_grow_old _ _ (by simp_all)];simp [Sort.putRow,Sort.mapBlock,Array.getElem?_modify,Ne.symm hne]
  have hself:(Sort.grow (Sort.putRow enc (Sort.ahead w n) l.b l.off d) os).heap[l.b]? =some (.cells (Sort.putCells enc l.off d c) t (0,0)):=by
    rw [Sort.heap_grow_old _ _ (by simp_all)];simp [Sort.putRow,Sort.mapBlock,Array.getElem?_modify,c4,Sort.onCells]
  have hrow:b5g ⟨w,fun b=>ow b≠none,vis,μ,[]⟩ (Sort.grow (Sort.putRow enc (Sort.ahead w n) l.b l.off d) os) μ ow false 0 ((b3s zs).map (V.int .i64)) .flat:=by
    refine ⟨l,hl,by grind[Zz,c1l],.inr ⟨hreal,hroot,[],⟨c1,c2,?_,Sort.putCells enc l.off d c,t,(b3s zs).map (Zq .i64),hself,?_,d85 _,?_,?_⟩,rfl,fun _ e=>by
      have:=congrArg List.length e
      grind[Zz,c1l,Zh]⟩⟩
    · intro x hx
      obtain ⟨z,_,rfl⟩:=qmd.1 hx;rw [hsz];rfl
    · grind[Sort.putCells]
    · intro _ hv
      obtain ⟨z,_,rfl⟩:=qmd.1 hv;rfl
    · intro j x hj
      have hjl:j < (b3s zs).length:=by
        grind
      have hx:x=.int .i64 (b3s zs)[j]:=by grind
      have hjz:j < zs.length:=by grind[c1l]
      have hc:=c8 j (.int .i64 zs[j]) (by simp);rw [Sort.putCells,Array.getElem?_mapIdx,hc,qmv,if_pos ⟨by omega,by grind⟩,hx]
      grind
  refine ⟨_,μ,ow,rfl,⟨⟨[],.tup [] [] [] .nil,by simp⟩,fun id bk e=> ?_,?_,MLe.refl _,qly _,fun id hid=>hi.dom id hid,fun b hb=> ?_,fun b hb=>.inl hb,⟨?_,fun b hb hno=> ?_,rfl,rfl,rfl,fun x hx=> ?_,fun _ hp=>nomatch hp⟩⟩⟩
  · cases id with
    | zero=>
      simp only [Zu,Option.some.injEq] at e;subst e;exact hrow
    | succ id=>grind
  · intro bk hb
    rw [qlm] at hb;subst hb;rfl
  · by_cases q:b=l.b
    · subst q;exact ⟨_,_,hself⟩
    · exact (hi.owl b hb).keep (hother b (hi.owl b hb).lt q)
  · simp
  · grind
  simp_all[Sort.frozen?_grow,Sort.frozen?_putRow,Sort.frozen?_ahead]
end Go.Vm
namespace Go.Vm
open Go
theorem c2f (i:Nat):(b1w i≠.thin)=True:=by grind[b1w]
theorem f5f {m:Nat} {s:St} (id:Nat) (xs:List V) (hO:s.O[id]? =some (.arr xs .flat)):b44 m s {s with O:=s.O.set id (.arr xs .thin)}:=by
  intro cx a w μ ow hmu h;have hlid:id < s.O.length:=by
    grind
  refine ⟨μ,ow,h.mut (O':=s.O.set id (.arr xs .thin)) (fun _=>False) (MLe.refl μ) (fun j hj=>h.dom j (by grind)) (qly _) (fun _ _ _=>rfl) rfl rfl rfl (fun _ _=>rfl)
    (fun _ _ e=>e) (fun b j e=>.inr ⟨j,e⟩) (fun j bk e=> ?_) h.owl (fun b hb=>.inl hb)⟩
  by_cases hj:j=id
  · subst hj
    rw [qlf hlid] at e;simp only [Option.some.injEq] at e;subst e;right;obtain ⟨l,q1,q2,q3⟩:=h.blk j _ hO;refine ⟨l,q1,q2,?_⟩;rcases q3 with q3 | ⟨q3,q4,bl,q5,q6,q7⟩
    · grind
    · exact .inr ⟨q3,q4,bl,q5,q6,fun q=>absurd rfl q⟩
  grind
theorem c8s {m:Nat} {s:St}:b44 m s {s with vw:=true}:=fun cx a w μ ow hmu h=>
  ⟨μ,ow,⟨h.dfr,h.sz,fun t=>by
    obtain ⟨bl,r1,r2⟩:=h.env t;exact ⟨bl,r1,fun b hb=>(r2 b hb).mono rfl (fun _=>rfl)⟩,fun id bk e=>(h.blk id bk e).keep (MLe.refl μ) (fun _=>rfl) (fun b _ _=>⟨rfl,rfl⟩),h.dom,h.owl,h.own,h.frm,h.mu⟩⟩
def b7d (t:Nat) (v:V) (l:List (Nat×V)):List (Nat×V):=l.map fun p=>if p.1=t then (p.1,v) else p
theorem b6x (t:Nat) (v:V):∀(l:List (Nat×V)) (k:Nat),(look t l≠.any∨k≠t)→look k (b7d t v l)=if k=t then v else look k l
  | [],k,h=>by
    rcases h with h | h
    · exact absurd rfl h
    · simp [b7d,look,h]
  | (j, x)::l,k,h=>by
    show look k ((if j=t then (j,v) else (j,x))::b7d t v l)=_
    by_cases hj:j=t
    · subst hj
      rw [if_pos rfl,b0f,b0f]
      by_cases hk:k=j
      · grind
      · rw [if_neg hk,if_neg hk,if_neg hk,b6x j v l k (.inr hk),if_neg hk]
    · rw [if_neg hj,b0f,b0f]
      by_cases hk:k=j
      · grind
      · rw [if_neg hk,if_neg hk]
        refine b6x t v l k ?_;rcases h with h | h
        · rw [b0f] at h
          grind
        omega
theorem b04 (t k:Nat) (v x:V) (l:List (Nat×V)):b7d t v ((k,x)::l)=(if k=t then (k,v) else (k,x))::b7d t v l:=rfl
theorem b09 (t:Nat) (v:V):b7d t v []=[]:=rfl
theorem g27 {m:Nat} {s:St} (id t:Nat) (xs:List V) (k:Kd) (hO:s.O[id]? =some (.arr xs k)) (ht:s.get t=.ref id):b44 m s {s with env:=b7d t (.sub id 0 xs.length) s.env}:=by
  intro cx a w μ ow hmu h;refine ⟨μ,ow,h.dfr,h.sz,fun k'=> ?_,h.blk,h.dom,h.owl,h.own,h.frm,h.mu⟩;show ∃bl,Rep w μ (look k' (b7d t (.sub id 0 xs.length) s.env)) _ bl∧_;have hne:look t s.env≠.any:=by
    have:look t s.env=.ref id:=ht
    grind
  rw [b6x t _ s.env k' (.inl hne)]
  by_cases hkt:k'=t
  · subst hkt
    rw [if_pos rfl];obtain ⟨bl,r1,_⟩:=h.env k';rw [ht] at r1;obtain ⟨l,q1,q2,q3⟩:=h.blk id _ hO;refine ⟨[],?_,by simp⟩;generalize a.tmps.getD k' undef=x at r1;cases r1 with
    | ref _ l2 _ hl hd=>
      rw [hl] at q1;obtain rfl:=Option.some.inj q1;cases hd with
      | real hr=>
        have:=Rep.sub (w:=w) (μ:=μ) id 0 xs.length l2 hl hr (by omega)
        grind
      | nil q hf h0=>
        have:xs.length=0:=by omega
        rw [this];exact .sub0 id 0 l2 q hl (qle _)
  · rw [if_neg hkt]
    exact h.env k'
theorem b1q {s:St} {k:Nat} {kd:Kd} {xs ys} (hO:s.O[k]? =some (.arr xs kd)) (hk:(kd != .shal && kd.nm)=true) (e:xs=ys):b6b 0 s (.ref k) (.ref 0) [.arr ys kd]:=by
  subst e;have hf:(b5u (.ref k)).filter (fun id=>Nat.ble 0 id)=[k]:=by rfl
  unfold b6b;simp only [hf];simp only [Zn] at hk;refine ⟨⟨by simp [Zt,idx],by simp,qle _⟩,by simp [Zr,c1v,idx],by grind,?_,.inr ⟨by rfl,?_⟩⟩
  · intro bk hb
    rw [qlm] at hb;subst hb;exact hk.2
  · intro bk hb
    rw [qlm] at hb;subst hb;show (kd != .shal && kd.nm)=true
    grind
theorem d69 {s:St} {v:V} {r O'} (ids:List Nat) (h1:b5u v=ids) (h2:v.only (fun id=>(idx ids id).isSome)=true) (h3:ids.Nodup)
    (h4:v.ren (fun id=>(idx ids id).getD 0)=r) (h5:(ids.map fun id=>s.O.getD id .dead)=O') (h6:∀bk∈O',bk.kindIs (fun k=>k != .shal && k.nm)=true) (h7:v.clean=true):b6b 0 s v r O':=by
  subst h4 h5;have hf:(b5u v).filter (fun id=>Nat.ble 0 id)=ids:=by simp_all
  have ho:c1v 0 ids=fun id=>(idx ids id).getD 0:=by
    grind[id,c1v]
  unfold b6b;simp only [hf,ho];refine ⟨⟨b9w (fun id h=>by grind) h2,h3,qle _⟩,trivial,by simp,fun bk hb=> ?_,.inr ⟨h7,h6⟩⟩;have:=h6 bk hb;cases bk with
  | dead=>rfl
  | arr xs k=>cases k<;>simp_all [Blk.kindIs,Kd.nm]
  | box x k=>cases k<;>simp_all [Blk.kindIs,Kd.nm]
theorem Con.thin {f:FuncId} {P args r xs} (h:Con P f args [] r [.arr xs .flat]):Con P f args [] r [.arr xs .thin]:=by
  refine ⟨h.1,fun w vals μ ow vis hi=>(h.2 w vals μ ow vis hi).mono ?_⟩;rintro e w' ⟨v,μ',ow',he,hout⟩;refine ⟨v,μ',ow',he,hout.rep,fun id bk hb=> ?_,?_,hout.same,hout.len,hout.dom,hout.owl,hout.own,hout.frm⟩
  · cases id with
    | zero=>
      simp only [Zu,Option.some.injEq] at hb;subst hb;obtain ⟨l,q1,q2,q3⟩:=hout.blk 0 (.arr xs .flat) rfl;refine ⟨l,q1,q2,?_⟩;rcases q3 with q3 | ⟨q3,q4,bl,q5,q6,q7⟩
      · grind
      · exact .inr ⟨q3,q4,bl,q5,q6,fun q=>absurd rfl q⟩
    | succ n=>grind
  · intro bk hb
    rw [qlm] at hb;subst hb;rfl
theorem c25:b6p .thin false false=some .thin:=rfl
theorem b1y:Kd.thin.nm=true:=rfl
theorem b1z:Kd.shal.nm=true:=rfl
theorem g5o:(BinOp.eql == BinOp.neq)=false:=rfl
theorem f9b:(BinOp.neq == BinOp.neq)=true:=rfl
structure Caps (caps:List V):Prop where
  cc:∀s ls,b1d s ls caps=some caps
  ca:∀s,b1u s [] caps=some caps
  cn:∀p,Zc p caps=true
  cr:∀ρ,Zf ρ caps=caps
theorem Caps.nil:Caps []:=⟨fun _ _=>rfl,fun _=>rfl,fun _=>by rfl,fun _=>rfl⟩
theorem Caps.pv {caps} (xs:List V) (h:Caps caps):Caps (.pv xs 0 0::caps):=
  ⟨fun s ls=>by simp [b1d,b1o,h.cc],fun s=>by simp [b1u,b2y,b1o,h.ca],fun p=>by simp [Zc,Zt,h.cn],fun ρ=>by simp [Zf,Zr,h.cr]⟩
theorem c0j (id n:Nat):rho [id] n 0=id:=rfl
theorem d6v {m:Nat} {s:St} (b id:Nat) (xs:List V) (k:Kd) (hb:s.O[b]? =some (.box (.ref id) .mix)) (hO:s.O[id]? =some (.arr xs k)) (hk:k=.flat∨k=.deep∨k=.thin) (hne:b≠id) :
    b44 m s {s with O:=(s.O.set b (.box (.sl xs) .deep)).set id .dead}:=by
  intro cx a w μ ow hmu h;have hlb:b < s.O.length:=by
    grind
  have ht:b1v s (.ref id)=some (.sl xs,[id],false):=by
    grind[b1v,St.row,Blk.row]
  obtain ⟨l,q1,q2,q3⟩:=h.blk b _ hb;rcases q3 with ⟨_,q3⟩ | ⟨q3,q4,bl,q5,q6,_⟩
  · grind
  obtain ⟨c0,c1,c2,c,tc,vs,c4,c5,c6,c7,c8⟩:=q5;have c6':RepL w μ [V.ref id] vs bl:=c6;cases c6' with
  | cons _ x bx _ vs' bl2 r1 r2=>
    cases r2;obtain ⟨bl',t1,t2,t3,t4,_⟩:=b5e h.sup r1 (fun y hy=>q6 y (by grind)) ht;obtain ⟨nd,own⟩:=t4 rfl;refine ⟨μ,b5w ow [id] b,h.mut (O':=(s.O.set b (.box (.sl xs) .deep)).set id .dead) (fun _=>False) (MLe.refl μ) (fun j hj=>h.dom j (by grind)) (qly _) (fun _ _ _=>rfl) rfl rfl rfl (fun _ _=>rfl)
      (fun _ _ e=>b5f e) (fun b j e=>.inr (b5h e)) (fun j bk e=> ?_) (fun y hy=>h.owl y (b8v hy)) (fun y hy=>.inl (b8v hy))⟩
    by_cases hj:j=id
    · subst hj
      have hlid:j < (s.O.set b (.box (.sl xs) .deep)).length:=by
        grind
      rw [qlf hlid] at e;simp only [Option.some.injEq] at e;subst e;exact .inr trivial
    · rw [qld (fun q=>hj q.symm)] at e
      by_cases hjb:j=b
      · subst hjb
        rw [qlf hlb] at e;simp only [Option.some.injEq] at e;subst e;right;refine ⟨l,q1,q2,.inr ⟨q3,(b4y q4 (by grind)).trans q4,bl',⟨c0,c1,?_,c,tc,[x],c4,c5,?_,?_,?_⟩,⟨nd,?_⟩,fun _=>by simp⟩⟩
        · intro y hy
          rw [qlm] at hy;subst hy;exact c2 (.ref id) (by simp)
        · have:=RepL.cons (w:=w) (μ:=M0) _ x bl' [] [] [] t1 .nil
          rw [qml] at this;exact this
        · omega
        · omega
        · intro y hy
          obtain ⟨i,hi,r,e⟩:=own y hy;exact c82 e hi
      grind[Z3,b4y]
theorem c95 (m n:Nat):Z8 m n=decide (m=n):=by
  grind[Z8,decide_eq_true,Zj,decide_eq_false,Nat.beq_refl]
end Go.Vm
namespace Go.Vm
open Go
def b4a (bk bk':Blk) (xs xs':List V) (k k':Kd):Prop:=
  (bk=.arr xs k∧bk'=.arr xs' k')∨(∃x x',bk=.box x k∧bk'=.box x' k'∧xs=[x]∧xs'=[x'])
section
variable {bk bk':Blk} {xs xs':List V} {k k':Kd} (h:b4a bk bk' xs xs' k k') {cx:Cx} {w:World} {μ:Nat→Option Loc} {ow:Ow} {vw:Bool} {id:Nat}
include h
theorem b4a.ok (hb:c0t cx w μ ow vw id bk):b5g cx w μ ow vw id xs k:=by
  rcases h with ⟨rfl,_⟩ | ⟨x,x',rfl,_,rfl,_⟩<;>exact hb
theorem b4a.ok' (hb:b5g cx w μ ow vw id xs' k'):c0t cx w μ ow vw id bk':=by
  rcases h with ⟨_,rfl⟩ | ⟨x,x',_,rfl,_,rfl⟩<;>exact hb
end
theorem d8r {m:Nat} {s:St} (id:Nat) (bk bk':Blk) (xs xs' ys pre post:List V) (k kd:Kd) (hO:s.O[id]? =some bk) (hbk:b4a bk bk' xs xs' k .part) (hk:k=.deep∨k=.part)
    (hc:xs.flatMap Za=pre++.sl ys::post) (hc':xs'.flatMap Za=pre++.ref s.O.length::post) (hlen:xs'.length=xs.length)
    (hsz:∀n,(∀x∈xs,x.cells.length=n)→∀x∈xs',x.cells.length=n) (hy:ys≠[]) (hkd:kd=.deep∨(kd=.flat∧ys.all Zx=true)) (hv:s.vw=false) :
    b44 m s {s with O:=s.O.set id bk'++[.arr ys kd]}:=by
  intro cx a w μ ow hmu h;have hid:id < s.O.length:=(qlc.1 hO).1;obtain ⟨l,hl1,hl2,hl3⟩:=hbk.ok (h.blk id _ hO);have hxne:xs≠[]:=by grind
  rcases hl3 with ⟨_,q2⟩ | ⟨q1,q2,bl,q3,q4,q5⟩
  · grind
  have hown:bl.Nodup∧∀b∈bl,ow b=some (false,id):=by rcases hk with e | e<;>subst e<;>exact q4
  obtain ⟨c1,c2,c3,c,t,vs,c4,c5,c6,c7,c8⟩:=q3;rw [hc] at c6;obtain ⟨x1,x23,b1,b23,ev1,eb1,r1,r23⟩:=RepL.split pre (.sl ys::post) c6;cases r23 with
  | cons _ x bx _ x3 b3 hx r3=>
    cases hx with
    | sl0=>grind
    | sl _ b off cc sz vs' bl2 h0 hcap hs hz hl' k1 hr=>
      have hbo:ow b=some (false,id):=hown.2 b (by grind);obtain ⟨cs,tt,hh⟩:=h.owl b (by rw [hbo];simp);let loc:Loc:=⟨b,off,sz,ys.length,cc,true⟩;have hcells:Cells w M0 loc ys bl2:=by
        refine ⟨hcap.1,hs,hz,cs,tt,vs',hh,?_,hl',k1,fun j y hj=> ?_⟩
        · obtain ⟨cs2,t2,fr2,e2,e3⟩:=hcap.2
          grind
        · have:=hr j y hj
          grind[cell_of_row]
      let N:=s.O.length;let ow':Ow:=fun y=>if y=b then some (true,N) else if y∈bl2 then some (false,N) else ow y
      let μ':Nat→Option Loc:=fun j=>if j=N then some loc else μ j
      have hnd:=hown.1;rw [eb1] at hnd;obtain ⟨hn1,hn23,hn1x⟩:=List.nodup_append.1 hnd;obtain ⟨hnb,hn3,hnbx⟩:=List.nodup_append.1 hn23;obtain ⟨hnb2,hn2⟩:=Z0.1 hnb;have hm:MLe μ μ':=by
        intro j _ e;have:j≠N:=fun q=>by rw [q,h.dom N (qly _)] at e;cases e
        grind
      have howB:∀y,y∈b::bl2→ow y=some (false,id):=fun y hy=>hown.2 y (by grind)
      have hsame:∀y,y ∉ b::bl2→ow' y=ow y:=by
        grind
      have hsame':∀y,ow y≠some (false,id)→ow' y=ow y:=fun y hy=>hsame y fun q=>hy (howB y q)
      have hne:∀y,ow' y≠none→ow y≠none:=by
        grind
      have hvok:∀y,VOK cx ow s.vw y→VOK cx ow' s.vw y:=by
        intro y hb;rw [hv] at hb⊢;have h0:ow y=none:=hb.1.resolve_right (by simp);exact ⟨.inl (by rw [hsame' y (by rw [h0];simp)];exact h0),hb.2⟩
      have hbne:∀y∈b1++b3,y ∉ b::bl2:=by
        grind
      refine ⟨μ',ow',h.dfr,h.sz,fun t=> ?_,fun j bk2 e=> ?_,fun j hj=> ?_,fun y hy=>h.owl y (hne y hy),fun y hy=>h.own y (hne y hy),h.frm,h.mu.trans hm⟩
      · obtain ⟨bt,g1,g2⟩:=h.env t
        exact ⟨bt,g1.keep hm fun _ _=>rfl,fun y hy=>hvok y (g2 y hy)⟩
      · rcases qmk j N with hj | hj
        · rw [qls (by grind)] at e
          by_cases hji:j=id
          · subst hji
            rw [qlf hid] at e;simp only [Option.some.injEq] at e;subst e;refine hbk.ok' ⟨l,hm _ _ hl1,by omega,.inr ⟨q1,?_,b1++b3,⟨by omega,c2,hsz _ c3,c,t,vs,c4,c5,?_,c7,c8⟩,⟨?_,?_⟩,fun _=> ?_⟩⟩
            · grind
            · rw [hc',ev1]
              have hkm:MLe (k.mu μ) μ':=(k.mu_le μ).trans hm;have hN:μ' N=some loc:=by simp [μ']
              have rr:Rep w μ' (.ref N) (.slice (some ⟨b,off,none⟩) ys.length cc) []:=.ref N loc _ hN (Hd.real (l:=loc) rfl);exact (r1.keep hkm fun _ _=>rfl).append (RepL.cons _ _ _ _ _ _ rr (r3.keep hkm fun _ _=>rfl))
            · grind
            · grind
            grind
          · rw [qld (fun q=>hji q.symm)] at e
            refine (h.blk j bk2 e).keep hm (fun q=>q) fun y hyl hcc=>⟨rfl,hsame' y ?_⟩
            rcases hcc with q | q | q
            · rw [q];simp
            · rw [q];simp;exact hji
            · rw [hv] at q
              rw [q.1.resolve_right (by simp)];simp
        · rw [qli (by rw [qlr];exact hj),qlr] at e
          have hjN:j=N:=by
            grind
          subst hjN;rw [qmz,qm2,Option.some.injEq] at e;subst e;have hmu0:kd.mu μ'=M0:=by rcases hkd with q | ⟨q,_⟩<;>subst q<;>rfl
          refine ⟨loc,by simp [μ',N],rfl,.inr ⟨rfl,by grind,bl2,by grind,?_,fun _=>hy⟩⟩;rcases hkd with q | ⟨q,hns⟩
          · subst q
            refine ⟨hn2,fun y hy2=> ?_⟩
            grind
          · subst q
            exact b65 hl' hns
      · have hj':N+1≤j:=by simpa [N] using hj
        have h1:j≠N:=by omega
        simp only [μ',h1,if_false];exact h.dom j (by show s.O.length≤j;omega)
theorem d5e {m:Nat} {s:St} (id:Nat) (bk bk':Blk) (xs xs' pre post:List V) (k:Kd) (hO:s.O[id]? =some bk) (hbk:b4a bk bk' xs xs' k .part) (hk:k=.deep∨k=.part)
    (hc:xs.flatMap Za=pre++.nsl::post) (hc':xs'.flatMap Za=pre++.ref s.O.length::post) (hlen:xs'.length=xs.length)
    (hsz:∀n,(∀x∈xs,x.cells.length=n)→∀x∈xs',x.cells.length=n) :
    b44 m s {s with O:=s.O.set id bk'++[.arr [] .flat]}:=by
  intro cx a w μ ow hmu h;have hid:id < s.O.length:=(qlc.1 hO).1;obtain ⟨l,hl1,hl2,hl3⟩:=hbk.ok (h.blk id _ hO);have hxne:xs≠[]:=by grind
  rcases hl3 with ⟨_,q2⟩ | ⟨q1,q2,bl,q3,q4,q5⟩
  · grind
  have hown:bl.Nodup∧∀b∈bl,ow b=some (false,id):=by rcases hk with e | e<;>subst e<;>exact q4
  obtain ⟨c1,c2,c3,c,t,vs,c4,c5,c6,c7,c8⟩:=q3;rw [hc] at c6;obtain ⟨x1,x23,b1,b23,ev1,eb1,r1,r23⟩:=RepL.split pre (.nsl::post) c6;cases r23 with
  | cons _ x bx _ x3 b3 hx r3=>
    cases hx with
    | nsl ad =>
      let N:=s.O.length;let μ':Nat→Option Loc:=fun j=>if j=N then some b5x else μ j
      have hm:MLe μ μ':=by
        intro j _ e;have:j≠N:=fun q=>by rw [q,h.dom N (qly _)] at e;cases e
        grind
      have hN:μ' N=some b5x:=by grind
      refine ⟨μ',ow,h.dfr,h.sz,fun t=> ?_,fun j bk2 e=> ?_,fun j hj=> ?_,h.owl,h.own,h.frm,h.mu.trans hm⟩
      · obtain ⟨bt,g1,g2⟩:=h.env t
        exact ⟨bt,g1.keep hm fun _ _=>rfl,g2⟩
      · rcases qmk j N with hj | hj
        · rw [qls (by grind)] at e
          by_cases hji:j=id
          · subst hji
            rw [qlf hid] at e;simp only [Option.some.injEq] at e;subst e;refine hbk.ok' ⟨l,hm _ _ hl1,by omega,.inr ⟨q1,q2,bl,⟨by omega,c2,hsz _ c3,c,t,vs,c4,c5,?_,c7,c8⟩,hown,fun _=> ?_⟩⟩
            · rw [hc',ev1,eb1]
              have hkm:MLe (k.mu μ) μ':=(k.mu_le μ).trans hm;have rr:Rep w μ' (.ref N) (.slice ad 0 0) []:=.ref N b5x _ hN (.nil ad rfl rfl);exact (r1.keep hkm fun _ _=>rfl).append (RepL.cons _ _ _ _ _ _ rr (r3.keep hkm fun _ _=>rfl))
            grind
          · rw [qld (fun q=>hji q.symm)] at e
            exact (h.blk j bk2 e).keep hm (fun q=>q) fun y hyl hcc=>⟨rfl,rfl⟩
        · rw [qli (by grind),qlr] at e
          have hjN:j=N:=by
            grind
          subst hjN;rw [qmz,qm2,Option.some.injEq] at e;subst e;exact ⟨b5x,hN,rfl,.inl ⟨rfl,rfl⟩⟩
      · have hj':N+1≤j:=by grind
        have h1:j≠N:=by omega
        simp only [μ',h1,if_false];exact h.dom j (by omega)
theorem VOK.move {vw:Bool} {ids:List Nat} {id b:Nat} {cx ow} (h:VOK cx ow vw b):VOK cx (b5w ow ids id) vw b:=
  ⟨h.1.imp b5f fun ⟨q,_,e⟩=>⟨q,b5h e⟩,h.2⟩
def d5l (s s':St):Prop:=∀(cx:Cx) (a:Act) (w:World) (μ:Nat→Option Loc) (ow:Ow),Rel cx s a w μ ow→∃ow',Rel cx s' a w μ ow'∧∀b,VOK cx ow s.vw b→VOK cx ow' s.vw b
theorem d5l.weak {m:Nat} {s s'} (h:d5l s s'):b44 m s s':=fun cx a w μ ow _ hr=>let ⟨ow',q,_⟩:=h cx a w μ ow hr;⟨μ,ow',q⟩
theorem b64 {vw:Bool} {O O1:List Blk} (hl:O1.length=O.length) (h:∀env n mask,d5l ⟨env,O,vw,n,mask⟩ ⟨env,O1,vw,n,mask⟩):b9y vw O O1:=⟨hl,fun cx env n mask a w μ ow hr=>h env n mask cx a w μ ow hr⟩
theorem f6t {s:St} (id j:Nat) (bk bk':Blk) (xs xs' ys pre post:List V) (kd:Kd) (hO:s.O[id]? =some bk) (hj:s.O[j]? =some (.arr ys kd)) (hne:id≠j) (hbk:b4a bk bk' xs xs' .part .part) (hkd:kd=.flat∨kd=.deep∨kd=.thin)
    (hc:xs.flatMap Za=pre++.ref j::post) (hc':xs'.flatMap Za=pre++.sl ys::post) (hlen:xs'.length=xs.length)
    (hsz:∀n,(∀x∈xs,x.cells.length=n)→∀x∈xs',x.cells.length=n) :
    d5l s {s with O:=(s.O.set id bk').set j .dead}:=by
  intro cx a w μ ow h;have hid:id < s.O.length:=(qlc.1 hO).1;have hjl:j < s.O.length:=(qlc.1 hj).1;have ht:b1v s (.ref j)=some (.sl ys,[j],false):=by
    grind[b1v,St.row,Blk.row]
  obtain ⟨l,hl1,hl2,hl3⟩:=hbk.ok (h.blk id _ hO);have hxne:xs≠[]:=by grind
  rcases hl3 with ⟨_,q2⟩ | ⟨q1,q2,bl,q3,q4,q5⟩
  · grind
  obtain ⟨c1,c2,c3,c,t,vs,c4,c5,c6,c7,c8⟩:=q3;rw [hc] at c6;obtain ⟨x1,x23,b1,b23,ev1,eb1,r1,r23⟩:=RepL.split pre (.ref j::post) c6;cases r23 with
  | cons _ x bx _ x3 b3 hx r3=>
    have hx':Rep w μ (.ref j) x bx:=hx;have hbx:bx=[]:=by cases hx';rfl
    subst hbx;obtain ⟨bl',t1,t2,t3,t4,_⟩:=b5e h.sup hx' (by simp) ht;obtain ⟨nd,own⟩:=t4 rfl;have e0:bl=b1++[]++b3:=by grind
    have hk0:c4e cx ow s.vw id (b1++[]++b3) .part:=by grind
    have hkd2:=d82 (cx:=cx) (ow:=ow) (k:=.part) (k':=.part) (id:=id) (ids:=[j]) (vi:=false) (vw:=s.vw) (b1:=b1) (b2:=[]) (b3:=b3) (bl':=bl') (.inr ⟨rfl,rfl,rfl⟩) hk0 (by grind) (by simp) (by simp) (fun _=>⟨nd,own⟩);refine ⟨b5w ow [j] id,h.mut (O':=(s.O.set id bk').set j .dead) (fun _=>False) (MLe.refl μ) (fun i hi=>h.dom i (by grind)) (qly _) (fun _ _ _=>rfl) rfl rfl rfl (fun _ _=>rfl)
      (fun _ _ e=>b5f e) (fun b i e=>.inr (b5h e)) (fun i bk2 e=> ?_) (fun y hy=>h.owl y (b8v hy)) (fun y hy=>.inl (b8v hy)),fun _ q=>q.move⟩
    by_cases hij:i=j
    · subst hij
      rw [qlf (by grind)] at e;simp only [Option.some.injEq] at e;subst e;exact .inr trivial
    · rw [qld (fun q=>hij q.symm)] at e
      by_cases hii:i=id
      · subst hii
        rw [qlf hid] at e;simp only [Option.some.injEq] at e;subst e;right;refine hbk.ok' ⟨l,hl1,by omega,.inr ⟨q1,(b4y q2 (by grind)).trans q2,b1++bl'++b3,⟨by omega,c2,hsz _ c3,c,t,vs,c4,c5,?_,c7,c8⟩,hkd2,fun _ q=> ?_⟩⟩
        · rw [hc',ev1,ql5]
          exact r1.append (RepL.cons _ _ _ _ _ _ (t1.keep (MLe.zero _) fun _ _=>rfl) r3)
        grind
      grind[Z3,b4y]
theorem d30 {s:St} (id j:Nat) (bk bk':Blk) (xs xs' pre post:List V) (kd:Kd) (hO:s.O[id]? =some bk) (hj:s.O[j]? =some (.arr [] kd)) (hne:id≠j) (hbk:b4a bk bk' xs xs' .part .part) (hkd:kd≠.thin)
    (hc:xs.flatMap Za=pre++.ref j::post) (hc':xs'.flatMap Za=pre++.nsl::post) (hlen:xs'.length=xs.length)
    (hsz:∀n,(∀x∈xs,x.cells.length=n)→∀x∈xs',x.cells.length=n) :
    d5l s {s with O:=(s.O.set id bk').set j .dead}:=by
  intro cx a w μ ow h;have hid:id < s.O.length:=(qlc.1 hO).1;have hjl:j < s.O.length:=(qlc.1 hj).1;obtain ⟨l,hl1,hl2,hl3⟩:=hbk.ok (h.blk id _ hO);obtain ⟨lj,k1,k2,k3⟩:=h.blk j _ hj;have hxne:xs≠[]:=by grind
  rcases hl3 with ⟨_,q2⟩ | ⟨q1,q2,bl,q3,q4,q5⟩
  · grind
  have hreal:lj.real=false:=by
    grind
  obtain ⟨c1,c2,c3,c,t,vs,c4,c5,c6,c7,c8⟩:=q3;rw [hc] at c6;obtain ⟨x1,x23,b1,b23,ev1,eb1,r1,r23⟩:=RepL.split pre (.ref j::post) c6;cases r23 with
  | cons _ x bx _ x3 b3 hx r3=>
    have hx':Rep w μ (.ref j) x bx:=hx;obtain ⟨ad,rfl,rfl⟩:∃ad,x=.slice ad 0 0∧bx=[]:=by
      cases hx' with
      | ref _ l2 _ hl hd=>
        rw [k1] at hl;cases hl;cases hd with
        | real q=>grind
        | nil ad _ _=>simp
    refine ⟨ow,⟨h.dfr,h.sz,h.env,fun i bk2 e=> ?_,fun i hi=>h.dom i (by grind),h.owl,h.own,h.frm,h.mu⟩,fun _ q=>q⟩
    by_cases hij:i=j
    · subst hij
      rw [qlf (by grind)] at e;simp only [Option.some.injEq] at e;subst e;trivial
    · rw [qld (fun q=>hij q.symm)] at e
      by_cases hii:i=id
      · subst hii
        rw [qlf hid] at e;simp only [Option.some.injEq] at e;subst e;refine hbk.ok' ⟨l,hl1,by omega,.inr ⟨q1,q2,bl,⟨by omega,c2,hsz _ c3,c,t,vs,c4,c5,?_,c7,c8⟩,q4,fun _ q=> ?_⟩⟩
        · rw [hc',ev1,eb1]
          exact r1.append (RepL.cons _ _ _ _ _ _ (.nsl ad) r3)
        grind
      · rw [qld (fun q=>hii q.symm)] at e
        exact h.blk i bk2 e
theorem f6r {m:Nat} {s:St} (id j:Nat) (bk bk':Blk) (xs xs' pre post:List V) (kd:Kd) (hO:s.O[id]? =some bk) (hj:s.O[j]? =some (.arr [] kd)) (hne:id≠j) (hbk:b4a bk bk' xs xs' .part .part) (hkd:kd≠.thin)
    (hc:xs.flatMap Za=pre++.ref j::post) (hc':xs'.flatMap Za=pre++.nsl::post) (hlen:xs'.length=xs.length)
    (hsz:∀n,(∀x∈xs,x.cells.length=n)→∀x∈xs',x.cells.length=n) :
    b44 m s {s with O:=(s.O.set id bk').set j .dead}:=
  (d30 id j bk bk' xs xs' pre post kd hO hj hne hbk hkd hc hc' hlen hsz).weak
theorem b9v {s:St} (id:Nat) (bk bk':Blk) (xs:List V) (k k':Kd) (hO:s.O[id]? =some bk) (hbk:b4a bk bk' xs xs k k')
    (hk:∀(cx:Cx) (w:World) (μ:Nat→Option Loc) (ow:Ow) (bl:List Nat) (vs:List Value),RepL w (k.mu μ) (xs.flatMap Za) vs bl→c4e cx ow s.vw id bl k→RepL w (k'.mu μ) (xs.flatMap Za) vs bl∧c4e cx ow s.vw id bl k') (ht:k≠.thin∨k'=.thin) :
    d5l s {s with O:=s.O.set id bk'}:=by
  intro cx a w μ ow h;have hid:id < s.O.length:=(qlc.1 hO).1;obtain ⟨l,hl1,hl2,hl3⟩:=hbk.ok (h.blk id _ hO);refine ⟨ow,⟨h.dfr,h.sz,h.env,fun i bk2 e=> ?_,fun i hi=>h.dom i (by grind),h.owl,h.own,h.frm,h.mu⟩,fun _ q=>q⟩
  by_cases hii:i=id
  · subst hii
    rw [qlf hid] at e;simp only [Option.some.injEq] at e;subst e;refine hbk.ok' ⟨l,hl1,hl2,?_⟩;rcases hl3 with q | ⟨q1,q2,bl,⟨c1,c2,c3,c,t,vs,c4,c5,c6,c7,c8⟩,q4,q5⟩
    · grind
    · obtain ⟨g1,g2⟩:=hk cx w μ ow bl vs c6 q4
      exact .inr ⟨q1,q2,bl,⟨c1,c2,c3,c,t,vs,c4,c5,g1,c7,c8⟩,g2,fun hne=>q5 (by grind)⟩
  · rw [qld (fun q=>hii q.symm)] at e
    exact h.blk i bk2 e
theorem b92 {m:Nat} {s:St} (id:Nat) (bk bk':Blk) (xs:List V) (k k':Kd) (hO:s.O[id]? =some bk) (hbk:b4a bk bk' xs xs k k')
    (hk:∀(cx:Cx) (w:World) (μ:Nat→Option Loc) (ow:Ow) (bl:List Nat) (vs:List Value),RepL w (k.mu μ) (xs.flatMap Za) vs bl→c4e cx ow s.vw id bl k→RepL w (k'.mu μ) (xs.flatMap Za) vs bl∧c4e cx ow s.vw id bl k') (ht:k≠.thin∨k'=.thin) :
    b44 m s {s with O:=s.O.set id bk'}:=
  (b9v id bk bk' xs k k' hO hbk hk ht).weak
section
variable {m:Nat} {s:St} (id:Nat) (bk bk':Blk) (xs:List V) (hO:s.O[id]? =some bk)
include id bk bk' xs hO
theorem c8w (hbk:b4a bk bk' xs xs .part .deep) (hn:xs.all V.noRef=true):b44 m s {s with O:=s.O.set id bk'}:=
  b92 id bk bk' xs .part .deep hO hbk (fun cx w μ ow bl vs h1 h2=>⟨b5d h1 hn,h2⟩) (.inl (by simp))
theorem g5i (hbk:b4a bk bk' xs xs .mix .part) (hn:xs.all Zx=true):b44 m s {s with O:=s.O.set id bk'}:=
  b92 id bk bk' xs .mix .part hO hbk (fun cx w μ ow bl vs h1 h2=>⟨h1,by
    have:bl=[]:=b65 h1 hn;subst this;exact ⟨by simp,by simp⟩⟩) (.inl (by simp))
theorem f2c (hbk:b4a bk bk' xs xs .part .mix) (hn:xs.all Zx=true):b44 m s {s with O:=s.O.set id bk'}:=
  b92 id bk bk' xs .part .mix hO hbk (fun cx w μ ow bl vs h1 h2=>⟨h1,by
    have:bl=[]:=b65 h1 hn;subst this;exact fun b hb=>nomatch hb⟩) (.inl (by simp))
end
theorem f4n {m:Nat} {s:St} (id:Nat) (xs:List V) (hO:s.O[id]? =some (.arr xs .flat)):b44 m s {s with O:=s.O.set id (.arr xs .deep)}:=
  b92 id _ _ xs .flat .deep hO (.inl ⟨rfl,rfl⟩) (fun cx w μ ow bl vs h1 h2=>⟨h1,by
    have:bl=[]:=h2;subst this;exact ⟨by simp,by simp⟩⟩) (.inl (by simp))
theorem c0v {m:Nat} {s:St} (id n:Nat) (xs:List V) (hO:s.O[id]? =some (.arr xs (b1w n))):b44 m s {s with O:=s.O.set id (.arr xs .deep)}:=by
  grind[c0r,f4n,St.O_same,b2o]
def Wk (c c':V):Prop:=c'=c∨(c=.nsl∧c'=.sl [])∨c'=.any
def WkL:List V→List V→Prop
  | [],[]=>True
  | c::cs,c'::cs'=>Wk c c'∧WkL cs cs'
  | _,_=>False
theorem WkL.refl:∀l:List V,WkL l l
  | []=>trivial
  | _::l=>⟨.inl rfl,WkL.refl l⟩
theorem WkL.append:∀{a a' b b':List V},WkL a a'→WkL b b'→WkL (a++b) (a'++b')
  | [],[],_,_,_,h=>h
  | _::_,_::_,_,_,h,k=>⟨h.1,WkL.append h.2 k⟩
  | [],_::_,_,_,h,_=>nomatch h
  | _::_,[],_,_,h,_=>nomatch h
theorem RepL.wk {w ν}:∀{cs cs':List V} {vs:List Value} {bl:List Nat},WkL cs cs'→RepL w ν cs vs bl→∃bl',RepL w ν cs' vs bl'∧List.Sublist bl' bl
  | [],[],_,_,_,h=>⟨_,h,List.Sublist.refl _⟩
  | [],_::_,_,_,h,_=>nomatch h
  | _::_,[],_,_,h,_=>nomatch h
  | c ::cs,c'::cs',_,_,⟨h1,h2⟩,.cons _ x bx _ xs bl' hx ht=>by
    obtain ⟨b2,g1,g2⟩:=RepL.wk h2 ht;rcases h1 with e | ⟨e1,e2⟩ | e
    · subst e;exact ⟨bx++b2,.cons _ _ _ _ _ _ hx g1,(List.Sublist.refl _).append g2⟩
    · subst e1;subst e2
      cases hx with
      | nsl ad=>exact ⟨[]++b2,.cons _ _ _ _ _ _ (.sl0 ad 0) g1,by grind⟩
    · subst e
      exact ⟨[]++b2,.cons _ _ _ _ _ _ (.any x) g1,(List.nil_sublist bx).append g2⟩
theorem c9m {s:St} (id:Nat) (bk bk':Blk) (xs xs':List V) (k:Kd) (hO:s.O[id]? =some bk) (hbk:b4a bk bk' xs xs' k k) (hw:WkL (xs.flatMap Za) (xs'.flatMap Za)) (hlen:xs'.length=xs.length)
    (hsz:∀n,(∀x∈xs,x.cells.length=n)→∀x∈xs',x.cells.length=n):d5l s {s with O:=s.O.set id bk'}:=by
  intro cx a w μ ow h;have hid:id < s.O.length:=(qlc.1 hO).1;obtain ⟨l,hl1,hl2,hl3⟩:=hbk.ok (h.blk id _ hO);refine ⟨ow,⟨h.dfr,h.sz,h.env,fun i bk2 e=> ?_,fun i hi=>h.dom i (by grind),h.owl,h.own,h.frm,h.mu⟩,fun _ q=>q⟩
  by_cases hii:i=id
  · subst hii
    rw [qlf hid] at e;simp only [Option.some.injEq] at e;subst e;refine hbk.ok' ⟨l,hl1,by omega,?_⟩;rcases hl3 with ⟨q1,q2⟩ | ⟨q1,q2,bl,⟨c1,c2,c3,c,t,vs,c4,c5,c6,c7,c8⟩,q4,q5⟩
    · grind
    · obtain ⟨bl',g1,g2⟩:=RepL.wk hw c6
      exact .inr ⟨q1,q2,bl',⟨c1,c2,hsz _ c3,c,t,vs,c4,c5,g1,c7,c8⟩,q4.sub g2,fun hne e=>q5 hne (by grind)⟩
  · rw [qld (fun q=>hii q.symm)] at e
    exact h.blk i bk2 e
theorem b8a {m:Nat} {s:St} (id:Nat) (bk bk':Blk) (xs xs':List V) (k:Kd) (hO:s.O[id]? =some bk) (hbk:b4a bk bk' xs xs' k k) (hw:WkL (xs.flatMap Za) (xs'.flatMap Za)) (hlen:xs'.length=xs.length)
    (hsz:∀n,(∀x∈xs,x.cells.length=n)→∀x∈xs',x.cells.length=n):b44 m s {s with O:=s.O.set id bk'}:=
  (c9m id bk bk' xs xs' k hO hbk hw hlen hsz).weak
theorem d6p {m:Nat} {s:St} (id n t:Nat) (xs:List V) (k:Kd) (hm:m≤s.O.length) (hO:s.O[id]? =some (.arr xs k)) (hk:k=.flat∨k=.thin) (ht:s.get t=.sub id 0 n) :
    b44 m s {s with env:=b7d t (.ref s.O.length) s.env,O:=s.O.set id .dead++[.arr (xs.take n) .thin]}:=by
  intro cx a w μ ow hmu h;have hid:id < s.O.length:=(qlc.1 hO).1;obtain ⟨l,hl1,hl2,hl3⟩:=h.blk id _ hO;obtain ⟨bt,hrep,hbt⟩:=h.env t;rw [ht] at hrep;let N:=s.O.length;have hk0:k.mu μ=M0:=by rcases hk with e | e<;>subst e<;>rfl
  have key:∃loc:Loc,Hd loc (a.tmps.getD t undef)∧loc.n=(xs.take n).length∧((loc.real=false∧xs.take n=[])∨(loc.real=true∧loc.b=l.b∧ow l.b=some (true,id)∧Cells w M0 loc (xs.take n) [])):=by
    generalize a.tmps.getD t undef=x at hrep;cases hrep with
    | sub0 _ _ l' ad hl hn=>
      exact ⟨b5x,.nil ad rfl rfl,by rfl,.inl ⟨rfl,by simp⟩⟩
    | sub _ _ _ l' hl hr hn=>
      rw [hl1] at hl;cases hl;rcases hl3 with ⟨q1,_⟩ | ⟨q1,q2,bl,q3,q4,q5⟩
      · grind
      · have hb0:bl=[]:=by rcases hk with e | e<;>subst e<;>exact q4
        subst hb0;rw [hk0] at q3;obtain ⟨c1,c2,c3,c,tt,vs,c4,c5,c6,c7,c8⟩:=q3;refine ⟨⟨l.b,l.off,l.sz,n,l.cap,true⟩,?_,?_,.inr ⟨rfl,rfl,q2,⟨?_,c2,fun y hy=>c3 y (qlz hy),c,tt,vs.take (n * l.sz),c4,c5,?_,fun y hy=>c7 y (qlz hy),fun j y hj=> ?_⟩⟩⟩
        · have:=Hd.real (l:=⟨l.b,l.off,l.sz,n,l.cap,true⟩) rfl
          grind
        · grind
        · grind
        · have hfl:(xs.take n).flatMap Za=(xs.flatMap Za).take (n * l.sz):=b3q xs l.sz c3 n
          rw [hfl];have e:=Zk (n * l.sz) (xs.flatMap Za);rw [←e] at c6;obtain ⟨x1,x2,b1,b2,e1,e2,r1,r2⟩:=RepL.split _ _ c6;have hb1:b1=[]:=by
            grind[List.append_eq_nil_iff]
          subst hb1;have hx1:x1.length=((xs.flatMap Za).take (n * l.sz)).length:=r1.length.symm;have hvl:=c6.length;have:vs.take (n * l.sz)=x1:=by
            rw [qlj] at hx1;have hle:x1.length≤n * l.sz:=by omega
            rcases qmk x1.length (n * l.sz) with q | q
            · grind[List.length_drop,Zh,Zy]
            grind
          grind
        grind
  obtain ⟨loc,z1,z2,z3⟩:=key;let ow':Ow:=fun y=>if loc.real=true∧y=loc.b then some (true,N) else ow y
  let μ':Nat→Option Loc:=fun j=>if j=N then some loc else μ j
  have hmm:MLe μ μ':=by
    intro j _ e;have:j≠N:=fun q=>by rw [q,h.dom N (qly _)] at e;cases e
    grind
  have hsame:∀y,ow y≠some (true,id)→ow' y=ow y:=by
    grind
  have hne:∀y,ow' y≠none→ow y≠none:=by
    grind
  have hvok:∀y,VOK cx ow s.vw y→VOK cx ow' s.vw y:=fun y hy=>hy.mono (hsame y fun q=>hy.not_root q) (fun q=>q)
  have htt:look t s.env≠.any:=by
    intro e;have h2:look t s.env=.sub id 0 n:=ht
    grind
  have hslot:∀j,look j (b7d t (.ref N) s.env)=if j=t then .ref N else look j s.env:=fun j=>b6x t _ s.env j (.inl htt)
  refine ⟨μ',ow',h.dfr,h.sz,fun j=> ?_,fun j bk2 e=> ?_,fun j hj=> ?_,fun y hy=>h.owl y (hne y hy),fun y hy=>h.own y (hne y hy),h.frm,h.mu.trans hmm⟩
  · show ∃bl,Rep w μ' (look j (b7d t (.ref N) s.env)) _ bl∧_
    rw [hslot]
    by_cases hjt:j=t
    · subst hjt
      rw [if_pos rfl];exact ⟨[],.ref N loc _ (by grind) z1,by simp⟩
    · rw [if_neg hjt]
      obtain ⟨b,g1,g2⟩:=h.env j;exact ⟨b,g1.keep hmm fun _ _=>rfl,fun y hy=>hvok y (g2 y hy)⟩
  · rcases qmk j N with hj | hj
    · rw [qls (by grind)] at e
      by_cases hji:j=id
      · subst hji
        rw [qlf hid] at e;simp only [Option.some.injEq] at e;subst e;trivial
      · rw [qld (fun q=>hji q.symm)] at e
        refine (h.blk j bk2 e).keep hmm (fun q=>q) fun y hyl hcc=>⟨rfl,hsame y ?_⟩
        rcases hcc with q | q | q
        · grind
        · grind
        · exact fun q2=>q.not_root q2
    · rw [qli (by grind),qlr] at e
      have hjN:j=N:=by
        grind
      subst hjN;rw [qmz,qm2,Option.some.injEq] at e;subst e;refine ⟨loc,by grind,z2,?_⟩;rcases z3 with q | ⟨q1,q2,q3,q4⟩
      · grind
      · exact .inr ⟨q1,by grind,[],q4,rfl,fun q=>absurd rfl q⟩
  · have hj':N+1≤j:=by grind
    have h1:j≠N:=by omega
    simp only [μ',h1,if_false];exact h.dom j (by omega)
theorem f3q {P:Program} {f:FuncId} {fn:Func} {args:List V} {O:List Blk} {c r O'} (rs:List ResultVar) (L:c4f) (hf:P.funcs[f]? =some fn) (hname:(fn.name == "runtime.NumGoroutine")=false)
    (hb:fn.body=some c) (hts:fn.results=rs.toArray) (hn:args.length≤fn.ntmps) (s1:St) (hweak:b44 O.length ⟨b5s 0 args,O,false,fn.ntmps,0⟩ s1)
    (h:∀Q:AEx→St→Prop,(∀s s2,b44 O.length s s2→(d0r P s2 rs fun vs vw=>b6b O.length {s2 with vw:=vw} (b6n vs) r O')→Q .normal s)→(∀s s2,b44 O.length s s2→(d0r P s2 rs fun vs vw=>b6b O.length {s2 with vw:=vw} (b6n vs) r O')→Q .ret s)→
      awp P L O.length c Q s1):Con P f args O r O':=
  b76.con (c31 (R:=isR r O') rs L 0 hf hname hb hts hn hweak (h (fun e s=>match e with | .exit _=>False | _=>∃s2,b44 O.length s s2∧d0r P s2 rs fun vs vw=>∃r' O'',isR r O' r' O''∧b6b O.length {s2 with vw:=vw} (b6n vs) r' O'')
    (fun s s2 hw q=>⟨s2,hw,b99 (fun _ _ z=>⟨r,O',⟨rfl,rfl⟩,z⟩) q⟩) (fun s s2 hw q=>⟨s2,hw,b99 (fun _ _ z=>⟨r,O',⟨rfl,rfl⟩,z⟩) q⟩)))
theorem g14 {s:St} {o:Oper} {P L rg K rest} (j:Nat) (want:Bool) (hg:o.guard=some (j,want)) (hv:b01 s rg j want=some true) (hd:c44 o.dst s.n)
    (h:∀K':St→Prop,(∀s,d3s P L rg K rest s→K' s)→b1c P L s o fun v s'=>K' (s'.set o.dst (.opt true v))):d3s P L rg K (o::rest) s:=
  .inr ⟨hd,j,want,true,hg,hv,fun _=>h _ (fun _ q=>q),fun e=>nomatch e⟩
theorem c2p {xs:List V} {i:Nat} {x:V} (h:xs[i]? =some x):xs.flatMap Za=(xs.take i).flatMap Za++(x.cells++(xs.drop (i+1)).flatMap Za):=by
  grind[List.getElem?_eq_some_iff,Zk,List.drop_eq_getElem_cons]
theorem c03 {xs:List V} {i:Nat} {x y:V} (h:xs[i]? =some x):(xs.set i y).flatMap Za=(xs.take i).flatMap Za++(y.cells++(xs.drop (i+1)).flatMap Za):=by
  have hl:=(qlc.1 h).1;have h2:(xs.set i y)[i]? =some y:=qlf hl;rw [c2p h2,List.take_set,List.set_eq_of_length_le (by grind),List.drop_set,if_pos (by omega)]
theorem c5n {xs:List V} {i:Nat} {x y:V} (h:xs[i]? =some x) (hc:y.cells.length=x.cells.length):∀n,(∀z∈xs,z.cells.length=n)→∀z∈xs.set i y,z.cells.length=n:=by
  grind
theorem c80 {m:Nat} {s:St} (id i:Nat) (xs pre ys:List V) (k kd:Kd) (hO:s.O[id]? =some (.arr xs k)) (hk:k=.deep∨k=.part) (hi:xs[i]? =some (.agg (pre++[.sl ys]))) (hy:ys≠[]) (hkd:kd=.deep∨(kd=.flat∧ys.all Zx=true)) (hv:s.vw=false) :
    b44 m s {s with O:=s.O.set id (.arr (xs.set i (.agg (pre++[.ref s.O.length]))) .part)++[.arr ys kd]}:=
  d8r id _ _ xs (xs.set i (.agg (pre++[.ref s.O.length]))) ys ((xs.take i).flatMap Za++pre) ((xs.drop (i+1)).flatMap Za) k kd hO (.inl ⟨rfl,rfl⟩) hk
    (by rw [c2p hi];simp [Za]) (by grind[c03,Za]) qlr (c5n hi (by simp [Za])) hy hkd hv
theorem g26 {m:Nat} {s:St} (id i:Nat) (xs pre:List V) (k:Kd) (hO:s.O[id]? =some (.arr xs k)) (hk:k=.deep∨k=.part) (hi:xs[i]? =some (.agg (pre++[.nsl]))) :
    b44 m s {s with O:=s.O.set id (.arr (xs.set i (.agg (pre++[.ref s.O.length]))) .part)++[.arr [] .flat]}:=
  d5e id _ _ xs (xs.set i (.agg (pre++[.ref s.O.length]))) ((xs.take i).flatMap Za++pre) ((xs.drop (i+1)).flatMap Za) k hO (.inl ⟨rfl,rfl⟩) hk
    (by rw [c2p hi];simp [Za]) (by grind[c03,Za]) qlr (c5n hi (by simp [Za]))
theorem d2u {m:Nat} {s:St} (id:Nat) (xs:List V) (n:Nat) (hO:s.O[id]? =some (.arr xs .deep)) (hn:xs.length=n):b44 m s {s with O:=s.O.set id (.arr xs (b1w n))}:=by
  intro cx a w μ ow hmu h;have hid:id < s.O.length:=(qlc.1 hO).1;obtain ⟨l,hl1,hl2,hl3⟩:=h.blk id _ hO;refine ⟨μ,ow,h.dfr,h.sz,h.env,fun i bk2 e=> ?_,fun i hi=>h.dom i (by grind),h.owl,h.own,h.frm,h.mu⟩
  by_cases hii:i=id
  · subst hii
    rw [qlf hid] at e;simp only [Option.some.injEq] at e;subst e;refine ⟨l,hl1,hl2,?_⟩;rcases hl3 with q | ⟨q1,q2,bl,q3,q4,q5⟩
    · grind
    · have hne:=q5 (by simp)
      have hd:b1w n=.deep:=by
        unfold b1w;rw [if_neg]
        grind
      grind
  · rw [qld (fun q=>hii q.symm)] at e
    exact h.blk i bk2 e
end Go.Vm
namespace Go.Vm
open Go
theorem c7c {m:Nat} {s:St} (id n t:Nat) (xs:List V) (hm:m≤s.O.length) (hO:s.O[id]? =some (.arr xs .deep)) (hn0:0 < n) (ht:s.get t=.sub id 0 n) (hv:s.vw=false) :
    b44 m s {s with env:=b7d t (.ref s.O.length) s.env,O:=s.O.set id .dead++[.arr (xs.take n) .deep]}:=by
  intro cx a w μ ow hmu h;have hid:id < s.O.length:=(qlc.1 hO).1;obtain ⟨l,hl1,hl2,hl3⟩:=h.blk id _ hO;obtain ⟨bt,hrep,hbt⟩:=h.env t;rw [ht] at hrep;let N:=s.O.length;have key:∃(loc:Loc) (bl:List Nat),Hd loc (a.tmps.getD t undef)∧loc.n=(xs.take n).length∧loc.real=true∧loc.b=l.b∧ow l.b=some (true,id)∧Cells w M0 loc (xs.take n) bl∧bl.Nodup∧(∀b∈bl,ow b=some (false,id))∧xs.take n≠[]:=by
    generalize a.tmps.getD t undef=x at hrep;cases hrep with
    | sub0 _ _ l' ad hl hn=>omega
    | sub _ _ _ l' hl hr hn=>
      rw [hl1] at hl;cases hl;rcases hl3 with ⟨q1,_⟩ | ⟨q1,q2,bl,q3,q4,q5⟩
      · grind
      · obtain ⟨q41,q42⟩:=q4
        obtain ⟨c1,c2,c3,c,tt,vs,c4,c5,c6,c7,c8⟩:=q3;have hfl:(xs.take n).flatMap Za=(xs.flatMap Za).take (n * l.sz):=b3q xs l.sz c3 n;have e:=Zk (n * l.sz) (xs.flatMap Za);rw [←e] at c6;obtain ⟨x1,x2,b1,b2,e1,e2,r1,r2⟩:=RepL.split _ _ c6;have hx1:x1.length=((xs.flatMap Za).take (n * l.sz)).length:=r1.length.symm;have hvl:=c6.length;have htk:vs.take (n * l.sz)=x1:=by
          rw [qlj] at hx1;have hle:x1.length≤n * l.sz:=by omega
          rcases qmk x1.length (n * l.sz) with q | q
          · grind[List.length_drop,Zh,Zy]
          grind
        have hbb:∀b∈b1,b∈bl:=fun b hb=>by grind
        refine ⟨⟨l.b,l.off,l.sz,n,l.cap,true⟩,b1,?_,?_,rfl,rfl,q2,⟨?_,c2,fun y hy=>c3 y (qlz hy),c,tt,vs.take (n * l.sz),c4,c5,?_,fun y hy=>c7 y (qlz hy),fun j y hj=> ?_⟩,?_,fun b hb=>q42 b (hbb b hb),?_⟩
        · have:=Hd.real (l:=⟨l.b,l.off,l.sz,n,l.cap,true⟩) rfl
          grind
        · grind
        · grind
        · rw [hfl,htk];exact r1
        · grind
        · grind
        grind
  obtain ⟨loc,bl1,z1,z2,z3,z4,z5,z6,z7,z8,z9⟩:=key;let ow':Ow:=fun y=>if y=loc.b then some (true,N) else if ow y=some (false,id) then some (false,N) else ow y
  let μ':Nat→Option Loc:=fun j=>if j=N then some loc else μ j
  have hmm:MLe μ μ':=by
    intro j _ e;have:j≠N:=fun q=>by rw [q,h.dom N (qly _)] at e;cases e
    grind
  have hsame:∀y,ow y≠some (true,id)→ow y≠some (false,id)→ow' y=ow y:=by
    grind
  have hne:∀y,ow' y≠none→ow y≠none:=by
    grind
  have hnone:∀y,VOK cx ow s.vw y→ow y=none:=by
    intro y hy;rcases hy.1 with e | ⟨e,_⟩
    · exact e
    grind
  have hvok:∀y,VOK cx ow s.vw y→VOK cx ow' s.vw y:=fun y hy=>by
    have e:=hnone y hy;exact hy.mono (hsame y (by grind) (by grind)) (fun q=>q)
  have htt:look t s.env≠.any:=by
    intro e;have h2:look t s.env=.sub id 0 n:=ht
    grind
  have hslot:∀j,look j (b7d t (.ref N) s.env)=if j=t then .ref N else look j s.env:=fun j=>b6x t _ s.env j (.inl htt)
  refine ⟨μ',ow',h.dfr,h.sz,fun j=> ?_,fun j bk2 e=> ?_,fun j hj=> ?_,fun y hy=>h.owl y (hne y hy),fun y hy=>h.own y (hne y hy),h.frm,h.mu.trans hmm⟩
  · show ∃bl,Rep w μ' (look j (b7d t (.ref N) s.env)) _ bl∧_
    rw [hslot]
    by_cases hjt:j=t
    · subst hjt
      rw [if_pos rfl];exact ⟨[],.ref N loc _ (by grind) z1,by simp⟩
    · rw [if_neg hjt]
      obtain ⟨b,g1,g2⟩:=h.env j;exact ⟨b,g1.keep hmm fun _ _=>rfl,fun y hy=>hvok y (g2 y hy)⟩
  · rcases qmk j N with hj | hj
    · rw [qls (by grind)] at e
      by_cases hji:j=id
      · subst hji
        rw [qlf hid] at e;simp only [Option.some.injEq] at e;subst e;trivial
      · rw [qld (fun q=>hji q.symm)] at e
        refine (h.blk j bk2 e).keep hmm (fun q=>q) fun y hyl hcc=>⟨rfl,?_⟩
        grind
    · rw [qli (by grind),qlr] at e
      have hjN:j=N:=by
        grind
      subst hjN;rw [qmz,qm2,Option.some.injEq] at e;subst e;refine ⟨loc,by grind,z2,.inr ⟨z3,by grind,bl1,z6,⟨z7,fun b hb=> ?_⟩,fun _=>z9⟩⟩
      grind
  · have hj':N+1≤j:=by grind
    have h1:j≠N:=by omega
    simp only [μ',h1,if_false];exact h.dom j (by omega)
theorem g3k {m:Nat} {s:St} (id:Nat) (xs:List V) (hO:s.O[id]? =some (.arr xs .deep)) (hn:xs.all Zx=true):b44 m s {s with O:=s.O.set id (.arr xs .flat)}:=
  b92 id _ _ xs .deep .flat hO (.inl ⟨rfl,rfl⟩) (fun cx w μ ow bl vs h1 h2=>⟨h1,b65 h1 hn⟩) (.inl (by simp))
theorem c68 {m:Nat} {s:St} (id n t:Nat) (xs:List V) (hm:m≤s.O.length) (hO:s.O[id]? =some (.arr xs (b1w xs.length))) (hle:n≤xs.length) (hz:n=0→xs.all Zx=true) (ht:s.get t=.sub id 0 n) (hv:s.vw=false) :
    b44 m s {s with env:=b7d t (.ref s.O.length) s.env,O:=s.O.set id .dead++[.arr (xs.take n) (thK n)]}:=by
  rcases ql8 n with e | e
  · subst e
    have hid:id < s.O.length:=(qlc.1 hO).1;have w1:b44 m s {s with O:=s.O.set id (.arr xs .flat)}:=by
      rcases c0r xs.length with q | q
      · grind[St.O_same,b2o]
      · rw [q] at hO;exact g3k id xs hO (hz rfl)
    have w2:=d6p (m:=m) (s:={s with O:=s.O.set id (.arr xs .flat)}) id 0 t xs .flat (by grind) (qlf hid) (.inl rfl) ht
    have w3:=b0m w1 w2;have hk2:thK 0=.thin:=rfl
    simp_all
  · have hk:b1w xs.length=.deep:=by unfold b1w;grind
    have hk2:thK n=.deep:=by unfold thK;grind
    grind[c7c]
end Go.Vm
namespace Go.Vm
open Go
def slN:List V→V
  | []=>.nsl
  | x::l=>.sl (x::l)
theorem d2e {pre post u v}:∀n,(∀x∈[V.agg (pre++u::post)],x.cells.length=n)→∀x∈[V.agg (pre++v::post)],x.cells.length=n:=by
  intro n hn x _;have h:=hn _ (qlm.2 rfl)
  grind[List.mem_singleton,Za]
theorem c1t {s:St} (id j:Nat) (pre post ys:List V) (kd:Kd) (hO:s.O[id]? =some (.box (.agg (pre++.ref j::post)) .part)) (hj:s.O[j]? =some (.arr ys kd)) (hne:id≠j) (hkd:kd=.flat∨kd=.deep) :
    d5l s {s with O:=(s.O.set id (.box (.agg (pre++slN ys::post)) .part)).set j .dead}:=by
  cases ys with
  | nil=>exact d30 id j _ _ [.agg (pre++.ref j::post)] [.agg (pre++.nsl::post)] pre post kd hO hj hne (.inr ⟨_,_,rfl,rfl,rfl,rfl⟩) (by rcases hkd with e | e<;>subst e<;>simp) (by simp [Za]) (by simp [Za]) rfl d2e
  | cons y l=>exact f6t id j _ _ [.agg (pre++.ref j::post)] [.agg (pre++.sl (y::l)::post)] (y::l) pre post kd hO hj hne (.inr ⟨_,_,rfl,rfl,rfl,rfl⟩) (hkd.imp (fun q=>q) .inl) (by simp [Za]) (by simp [Za]) rfl d2e
theorem c11 {m:Nat} {s:St} (id:Nat) (pre post ys:List V) (k kd:Kd) (hO:s.O[id]? =some (.box (.agg (pre++slN ys::post)) k)) (hk:k=.deep∨k=.part) (h0:ys=[]→kd=.flat) (h1:ys≠[]→kd=.deep∨(kd=.flat∧ys.all Zx=true)) (hv:s.vw=false) :
    b44 m s {s with O:=s.O.set id (.box (.agg (pre++.ref s.O.length::post)) .part)++[.arr ys kd]}:=by
  cases ys with
  | nil=>
    rw [h0 rfl];exact d5e id _ _ [.agg (pre++.nsl::post)] [.agg (pre++.ref s.O.length::post)] pre post k hO (.inr ⟨_,_,rfl,rfl,rfl,rfl⟩) hk (by simp [Za]) (by simp [Za]) rfl d2e
  | cons y l=>exact d8r id _ _ [.agg (pre++.sl (y::l)::post)] [.agg (pre++.ref s.O.length::post)] (y::l) pre post k kd hO (.inr ⟨_,_,rfl,rfl,rfl,rfl⟩) hk (by simp [Za]) (by simp [Za]) rfl d2e (by simp) (h1 (by simp)) hv
theorem d8u {vw:Bool} {id:Nat} {xs:List V} {cx w μ ow} (hn:xs.all Zx=true) {bl:List Nat} {vs:List Value} (h1:RepL w (Kd.mix.mu μ) (xs.flatMap Za) vs bl):RepL w (Kd.part.mu μ) (xs.flatMap Za) vs bl∧c4e cx ow vw id bl .part:=by
  have:bl=[]:=b65 h1 hn;subst this;exact ⟨h1,by simp,by simp⟩
theorem d40 {vw:Bool} {O:List Blk} (b i j:Nat) (xs ys:List V) (kj:Kd) (c:V) (hb:O[b]? =some (.box (.agg [.ref i,.ref j,c]) .mix)) (hi:O[i]? =some (.arr xs .flat)) (hj:O[j]? =some (.arr ys kj)) (hkj:kj=.flat∨kj=.deep)
    (hc:[V.agg [.ref i,.ref j,c]].all Zx=true) (n1:b≠i) (n2:b≠j) (n3:i≠j) :
    b9y vw O (((O.set b (.box (.agg [slN xs,slN ys,.any]) .deep)).set i .dead).set j .dead):=by
  have lb:b < O.length:=(qlc.1 hb).1;have li:i < O.length:=(qlc.1 hi).1;have lj:j < O.length:=(qlc.1 hj).1;let O1:=O.set b (.box (.agg [.ref i,.ref j,c]) .part);have p1:b9y vw O O1:=b64 (by grind) fun env n mask=>b9v (s:=⟨env,O,vw,n,mask⟩) b _ _ [.agg [.ref i,.ref j,c]] .mix .part hb (.inr ⟨_,_,rfl,rfl,rfl,rfl⟩) (fun _ _ _ _ _ _ h1 _=>d8u hc h1) (.inl (by simp))
  have h1b:O1[b]? =some (.box (.agg [.ref i,.ref j,c]) .part):=qlf lb;let O2:=O1.set b (.box (.agg [.ref i,.ref j,.any]) .part);have p2:b9y vw O1 O2:=b64 (by grind) fun env n mask=>c9m (s:=⟨env,O1,vw,n,mask⟩) b _ _ [.agg [.ref i,.ref j,c]] [.agg [.ref i,.ref j,.any]] .part h1b (.inr ⟨_,_,rfl,rfl,rfl,rfl⟩) ⟨.inl rfl,.inl rfl,.inr (.inr rfl),trivial⟩ rfl (d2e (pre:=[.ref i,.ref j]) (post:=[]))
  have h2b:O2[b]? =some (.box (.agg ([]++.ref i::[.ref j,.any])) .part):=qlf (by grind);have h2i:O2[i]? =some (.arr xs .flat):=by grind
  have h2j:O2[j]? =some (.arr ys kj):=by grind
  let O3:=(O2.set b (.box (.agg ([]++slN xs::[.ref j,.any])) .part)).set i .dead;have p3:b9y vw O2 O3:=b64 (by grind) fun env n mask=>c1t (s:=⟨env,O2,vw,n,mask⟩) b i [] [.ref j,.any] xs .flat h2b h2i n1 (.inl rfl)
  have h3b:O3[b]? =some (.box (.agg ([slN xs]++.ref j::[.any])) .part):=by grind
  have h3j:O3[j]? =some (.arr ys kj):=by grind
  let O4:=(O3.set b (.box (.agg ([slN xs]++slN ys::[.any])) .part)).set j .dead;have p4:b9y vw O3 O4:=b64 (by grind) fun env n mask=>c1t (s:=⟨env,O3,vw,n,mask⟩) b j [slN xs] [.any] ys kj h3b h3j n2 hkj
  have h4b:O4[b]? =some (.box (.agg [slN xs,slN ys,.any]) .part):=by grind
  have p5:b9y vw O4 (O4.set b (.box (.agg [slN xs,slN ys,.any]) .deep)):=b64 (by simp) fun env n mask=>b9v (s:=⟨env,O4,vw,n,mask⟩) b _ _ [.agg [slN xs,slN ys,.any]] .part .deep h4b (.inr ⟨_,_,rfl,rfl,rfl,rfl⟩) (fun _ _ _ _ _ _ h1 h2=>⟨b5d h1 (by cases xs<;>cases ys<;>rfl),h2⟩) (.inl (by simp))
  have e:O4.set b (.box (.agg [slN xs,slN ys,.any]) .deep)=((O.set b (.box (.agg [slN xs,slN ys,.any]) .deep)).set i .dead).set j .dead:=by
    apply Zs
    grind
  rw [←e];exact p1.trans (p2.trans (p3.trans (p4.trans p5)))
theorem d10 {m:Nat} {s:St} {O1} (h:b9y s.vw s.O O1):b44 m s {s with O:=O1}:=fun cx a w μ ow _ hr=>let ⟨ow',q,_⟩:=h.2 cx s.env s.n s.mask a w μ ow hr;⟨μ,ow',q⟩
theorem d8j {m:Nat} {s:St} (b:Nat) (xs ys:List V) (kj:Kd) (hb:s.O[b]? =some (.box (.agg [slN xs,slN ys,.any]) .deep)) (hx:xs.all Zx=true) (h0:ys=[]→kj=.flat) (h1:ys≠[]→kj=.deep) (hv:s.vw=false) :
    b44 m s {s with O:=s.O.set b (.box (.agg [.ref s.O.length,.ref (s.O.length+1),.any]) .mix)++[.arr xs .flat,.arr ys kj]}:=by
  have lb:b < s.O.length:=(qlc.1 hb).1;have w1:=c11 (m:=m) (s:=s) b [] [slN ys,.any] xs .deep .flat hb (.inl rfl) (fun _=>rfl) (fun _=>.inr ⟨rfl,hx⟩) hv;let s1:St:={s with O:=s.O.set b (.box (.agg ([]++.ref s.O.length::[slN ys,.any])) .part)++[.arr xs .flat]}
  have hl1:s1.O.length=s.O.length+1:=by grind
  have hb1:s1.O[b]? =some (.box (.agg ([.ref s.O.length]++slN ys::[.any])) .part):=by
    grind
  have w2:=c11 (m:=m) (s:=s1) b [.ref s.O.length] [.any] ys .part kj hb1 (.inr rfl) h0 (fun q=>.inl (h1 q)) hv;let s2:St:={s1 with O:=s1.O.set b (.box (.agg ([.ref s.O.length]++.ref s1.O.length::[.any])) .part)++[.arr ys kj]}
  have hb2:s2.O[b]? =some (.box (.agg [.ref s.O.length,.ref s1.O.length,.any]) .part):=by
    grind
  have w3:=f2c (m:=m) (s:=s2) b _ (.box (.agg [.ref s.O.length,.ref s1.O.length,.any]) .mix) [.agg [.ref s.O.length,.ref s1.O.length,.any]] hb2 (.inr ⟨_,_,rfl,rfl,rfl,rfl⟩) rfl;have w:=b0m w1 (b0m w2 w3);have e:s2.O.set b (.box (.agg [.ref s.O.length,.ref s1.O.length,.any]) .mix)=s.O.set b (.box (.agg [.ref s.O.length,.ref (s.O.length+1),.any]) .mix)++[.arr xs .flat,.arr ys kj]:=by
    grind[List.set_append_left,List.set_set,List.append_assoc]
  grind
theorem c7d {s:St} {f:FuncId} {r:V} {bk:Blk} {O1:List Blk} {K:V→St→Prop} {P args args' bk' O'} (id:Nat) (hp:b9y s.vw s.O O1) (hc:Con P f args' [bk] r (bk'::O')) (ht:b1u {s with O:=O1} [id] args=some args')
    (hO:O1[id]? =some bk) (hbk:bk.kindIs (fun k=>k.nm)=true∧bk≠.dead) (hv:s.vw=false∨bk.kindIs (fun k=>k == .flat)=true)
    (hcl:r.clean=true∧∀b∈bk'::O',b.kindIs (fun k=>k != .shal && k.nm)=true) (hk:K (r.ren (rho [id] O1.length)) {s with O:=O1.set id bk'++O'}):b9g P s f [id] args K:=
  ⟨O1,.inr ⟨by simp,hp⟩,d36 ht (by grind) (by simp) (by grind) (hv.imp (fun h=>h) (fun h=>by grind)) hc (.inl hcl) (by simpa [b4p] using hk)⟩
end Go.Vm
namespace Go.Vm
open Go
section
variable {α:Type} {f:α→V}
end
theorem d74 {s:St} {f:FuncId} {r:V} {K:V→St→Prop} {P args args' b1 b2 b3 b1' b2' b3' O'} (i j k:Nat) (hc:Con P f args' [b1,b2,b3] r (b1'::b2'::b3'::O')) (ht:b1u s [i,j,k] args=some args')
    (h1:s.O[i]? =some b1) (h2:s.O[j]? =some b2) (h3:s.O[k]? =some b3) (hn:[i,j,k].Nodup) (hbk:∀b∈[b1,b2,b3],b.kindIs (fun k=>k.nm)=true∧b≠.dead) (hv:s.vw=false∨∀b∈[b1,b2,b3],b.kindIs (fun k=>k == .flat)=true)
    (hcl:r.clean=true∧∀b∈b1'::b2'::b3'::O',b.kindIs (fun k=>k != .shal && k.nm)=true) (hk:K (r.ren (rho [i,j,k] s.O.length)) {s with O:=((s.O.set i b1').set j b2').set k b3'++O'}):b9g P s f [i,j,k] args K:=
  d2f ht (by simp_all) hn hbk hv hc (.inl hcl) (by simpa [b4p] using hk)
end Go.Vm
namespace Go.Vm
open Go
section
variable {τ α:Type} {pre:τ→List V} {sl:τ→List α} {f:α→V} {n:Nat}
end
end Go.Vm
namespace Go.Vm
open Go
def zE:=(And.intro (@c3m) (And.intro (@b0f) (And.intro (@b0n) (And.intro (@d8e) (And.intro (@f8s) (And.intro (@d8h) (And.intro (@g3r) (And.intro (@b7x) (And.intro (@g41) (And.intro (@qml.{0}) (And.intro (@Zo.{0}) (And.intro (@qm3.{0}) (And.intro (@true_and) (And.intro (@and_true) (And.intro (@and_self) (And.intro (@imp_self) (And.intro (@Bool.false_eq_true) (And.intro (@false_implies) (And.intro (@cond_true.{1}) (And.intro (@cond_false.{1}) (And.intro (@decide_eq_true_eq) (And.intro (@eq_self_iff_true.{1}) (And.intro (@exists_eq_left'.{1}) (And.intro (@Option.some.injEq.{0}) (And.intro (@not_false_eq_true) (And.intro (@not_true_eq_false) (@ne_eq.{1})))))))))))))))))))))))))))
def zS:=(And.intro (@f0u) (And.intro (@d7q) (And.intro (@f1s) (And.intro (@d92) (And.intro (@g4c) (And.intro (@f1c) (And.intro (@g21) (And.intro (@g3e) (And.intro (@f2l) (And.intro (@f0x) (And.intro (@f3t) (And.intro (@f0m) (And.intro (@f1z) (And.intro (@d6u) (And.intro (@d6o) (And.intro (@d71) (And.intro (@d4u) (And.intro (@d7k) (And.intro (@d93) (And.intro (@d7j) (And.intro (@Z1.{0}) (And.intro (@qme.{0}) (And.intro (@qln.{0}) (And.intro (@Z5) (And.intro (@Nat.add_zero) (@qm3.{0}))))))))))))))))))))))))))
def zN:=(And.intro (@Nat.zero_lt_one) (And.intro (@Nat.lt_add_one) (And.intro (@Z5) (And.intro (@Nat.add_zero) (And.intro (@qly) (@Nat.zero_lt_succ))))))
def zL:=(And.intro (@Zl.{0}) (And.intro (@Zi.{0}) (And.intro (@qm2.{0}) (And.intro (@List.getD_cons_zero.{0}) (And.intro (@List.getD_cons_succ.{0}) (And.intro (@qme.{0}) (And.intro (@Z1.{0}) (And.intro (@List.drop_zero.{0}) (And.intro (@List.drop_succ_cons.{0}) (And.intro (@List.headD_cons.{0}) (And.intro (@List.take_succ_cons.{0}) (And.intro (@qm4.{0}) (And.intro (@List.take_nil.{0}) (And.intro (@List.drop_nil.{0}) (And.intro (@qm5.{0,0}) (And.intro (@Z6.{0,0}) (And.intro (@Zv.{0,0}) (And.intro (@Option.isSome_some.{0}) (@qmv.{0,0})))))))))))))))))))
def zO:=(And.intro (@Bool.or_false) (And.intro (@Bool.false_or) (And.intro (@Bool.or_true) (And.intro (@Bool.true_or) (And.intro (@Bool.not_true) (And.intro (@Bool.not_false) (And.intro (@qmo) (And.intro (@qm0) (And.intro (@Bool.false_and) (And.intro (@Bool.true_and) (And.intro (@decide_true) (And.intro (@decide_false) (And.intro (@Bool.or_self) (@Bool.and_self))))))))))))))
def zJ:=(And.intro (@c1h) (And.intro (@c86) (And.intro (@c15) (And.intro (@c7m) (And.intro (@c7n) (And.intro (@g09) (And.intro (@b8w) (And.intro (@List.isEmpty_nil.{0}) (And.intro (@List.isEmpty_cons.{0}) (And.intro (@c0h) (And.intro (@List.not_mem_nil.{0}) (And.intro (@List.nodup_nil.{0}) (And.intro (@qlm.{0}) (And.intro (@Z0.{0}) (And.intro (@beq_self_eq_true.{0}) (And.intro (@Bool.cond_true.{1}) (And.intro (@Bool.cond_false.{1}) (And.intro (@List.all_cons.{0}) (And.intro (@List.all_nil.{0}) (And.intro (@List.set_cons_zero.{0}) (@List.set_cons_succ.{0})))))))))))))))))))))
def zP:=(And.intro (@Bool.cond_true_right) (And.intro (@Bool.cond_true_left) (And.intro (@Bool.cond_false_right) (@Bool.cond_false_left))))
def zG:=(And.intro (@Zl.{0}) (And.intro (@Zi.{0}) (And.intro (@qm2.{0}) (@Zv.{0,0}))))
def zV:=(And.intro (@c3m) (And.intro (@b0f) (And.intro (@cond_true.{1}) (And.intro (@cond_false.{1}) (And.intro (@qmo) (And.intro (@Bool.false_and) (And.intro (@Bool.not_true) (And.intro (@Bool.not_false) (And.intro (@Zl.{0}) (And.intro (@Zi.{0}) (And.intro (@qm2.{0}) (@Zv.{0,0}))))))))))))
def zC:=(And.intro (@decide_eq_true_eq) (And.intro (@decide_eq_false_iff_not) (And.intro (@qlg) (And.intro (@Ze) (And.intro (@Zd) (And.intro (@Bool.not_eq_false') (And.intro (@Bool.and_eq_false_imp) (And.intro (@Bool.or_eq_false_iff) (And.intro (@Int.not_lt) (And.intro (@Int.not_le) (And.intro (@Bool.true_eq_false) (And.intro (@Bool.false_eq_true) (And.intro (@imp_false) (@Classical.not_imp))))))))))))))
def zM:=(And.intro (@qm5.{0,0}) (And.intro (@Z6.{0,0}) (And.intro (@qml.{0}) (And.intro (@List.flatMap_nil.{0,0}) (And.intro (@qlv.{0}) (And.intro (@List.not_mem_nil.{0}) (And.intro (@or_false) (And.intro (@forall_eq_or_imp.{1}) (And.intro (@forall_eq.{1}) (@false_implies))))))))))
def zW:=(And.intro (@c3m) (And.intro (@b0f) (And.intro (@b0n) (And.intro (@d8e) (And.intro (@f8s) (And.intro (@d8h) (@g3r)))))))
def zY:=(And.intro (@qml.{0}) (And.intro (@qm3.{0}) (And.intro (@Zo.{0}) (And.intro (@Z1.{0}) (And.intro (@qme.{0}) (And.intro (@Z5) (And.intro (@Nat.not_lt_zero) (And.intro (@if_false.{1}) (@Nat.sub_zero)))))))))
theorem g08:Zb 0=[]:=rfl
theorem g0v:Zb 1=[0]:=rfl
theorem g1l:Zb 2=[0,1]:=rfl
theorem g0q:Zb 3=[0,1,2]:=rfl
theorem g04:Zb 4=[0,1,2,3]:=rfl
theorem g03:Zb 5=[0,1,2,3,4]:=rfl
theorem g1g:Zb 6=[0,1,2,3,4,5]:=rfl
theorem g0w:Zb 7=[0,1,2,3,4,5,6]:=rfl
theorem g1f:Zb 8=[0,1,2,3,4,5,6,7]:=rfl
theorem g07:Zb 9=[0,1,2,3,4,5,6,7,8]:=rfl
theorem g4f:Zb 10=[0,1,2,3,4,5,6,7,8,9]:=rfl
theorem f2p:Zb 11=[0,1,2,3,4,5,6,7,8,9,10]:=rfl
theorem f2z:Zb 12=[0,1,2,3,4,5,6,7,8,9,10,11]:=rfl
theorem b10:Kd.flat.nm=true:=rfl
theorem b1x:Kd.deep.nm=true:=rfl
end Go.Vm
namespace Go.Vm
open Go
def Kd.isMix:Kd→Bool
  | .mix | .part=>true
  | _=>false
theorem b1h:Kd.flat.isMix=false:=rfl
theorem b2d:Kd.deep.isMix=false:=rfl
theorem b1i:Kd.shal.isMix=false:=rfl
theorem b75:Kd.thin.isMix=false:=rfl
theorem b1r:Kd.mix.isMix=true:=rfl
theorem b8b:Kd.part.isMix=true:=rfl
theorem b12 (i:Nat):(b1w i).isMix=false:=by unfold b1w;split<;>rfl
theorem b9s (i:Nat):(thK i).isMix=false:=by unfold thK;split<;>rfl
def Blk.renM (ρ:Nat→Nat):Blk→Blk
  | .dead=>.dead
  | .arr xs k=>.arr (bif k.isMix then Zf ρ xs else xs) k
  | .box x k=>.box (bif k.isMix then Zr ρ x else x) k
def Blk.onlyM (p:Nat→Bool):Blk→Bool
  | .dead=>true
  | .arr xs k=> !k.isMix || Zc p xs
  | .box x k=> !k.isMix || Zt p x
def St.compM (ids:List Nat) (s:St):St:={s with env:=s.env.map fun p=>(p.1,p.2.ren fun id=>(idx ids id).getD 0),O:=ids.map fun id=>(s.O.getD id .dead).renM fun id=>(idx ids id).getD 0}
theorem c4m (ρ:Nat→Nat):∀l:List V,Zf ρ l=l.map (Zr ρ)
  | []=>by rfl
  | v::l=>by rw [Zf,c4m ρ l];rfl
theorem d6c (ρ:Nat→Nat) (v:V):(v.ren ρ).cells=v.cells.map (Zr ρ):=by
  cases v<;>simp only [Zr,Za,Z4,Z6]
  rw [c4m]
theorem f3h (ρ:Nat→Nat) (l:List V):(Zf ρ l).flatMap Za=Zf ρ (l.flatMap Za):=by
  induction l with
  | nil=>rfl
  | cons v l ih=>grind[Zf,d6c,c4m]
theorem f1i {p:Nat→Bool} {v:V} (h:v.only p=true):Zc p v.cells=true:=by
  cases v<;>simp_all [Zt,Za,Zc]
theorem c7g {p:Nat→Bool}:∀{a b:List V},Zc p a=true→Zc p b=true→Zc p (a++b)=true
  | [],_,_,h=>h
  | v::a,b,h,h2=>by
    rw [Zc,qlg] at h;rw [qm3,Zc,h.1,c7g h.2 h2];rfl
theorem d12 {p:Nat→Bool}:∀{l:List V},Zc p l=true→Zc p (l.flatMap Za)=true
  | [],_=>by rfl
  | v::l,h=>by
    rw [Zc,qlg] at h;rw [ql2];exact c7g (f1i h.1) (d12 h.2)
theorem f0w {m:Nat} {s:St} (ids:List Nat) (hn:ids.Nodup) (hm:∀j,j < m→ids[j]? =some j) (he:∀p∈s.env,p.2.only (fun id=>(idx ids id).isSome)=true)
    (hb:∀id∈ids,∀bk,s.O[id]? =some bk→bk.onlyM (fun id=>(idx ids id).isSome)=true):b44 m s (s.compM ids):=by
  intro cx a w μ ow hmu h;let ρ:Nat→Nat:=fun id=>(idx ids id).getD 0
  let μ':Nat→Option Loc:=fun j=>(ids[j]?).bind μ
  let ow':Ow:=fun b=>match ow b with
    | some (r,id)=>(idx ids id).map fun j=>(r,j)
    | none=>none
  have o0:∀b,ow b=none→ow' b=none:=fun b e=>by grind
  have o1:∀b id,ow b=some (false,id)→ow' b=none∨∃id',ow' b=some (false,id'):=fun b id e=>by
    cases q:idx ids id with
    | none=>grind
    | some j=>grind
  have oin:∀b r id j,ow b=some (r,id)→idx ids id=some j→ow' b=some (r,j):=fun b r id j e q=>by grind
  have one:∀b,ow' b≠none→ow b≠none:=fun b hb e=>hb (o0 b e)
  have hμ:∀id l,(idx ids id).isSome=true→μ id=some l→μ' (ρ id)=some l:=by
    intro id l hs e;obtain ⟨j,hj⟩:=qmi.1 hs;have:=b9b hj
    grind
  let μ2:Nat→Option Loc:=fun id=>if (idx ids id).isSome then μ id else none
  have h2:∀id l,μ2 id=some l→μ' (ρ id)=some l:=by
    grind
  refine ⟨μ',ow',h.dfr,h.sz,fun t=> ?_,fun j bk e=> ?_,fun j hj=> ?_,fun b hb=>h.owl b (one b hb),fun b hb=>h.own b (one b hb),h.frm,fun id l e=> ?_⟩
  · obtain ⟨bl,r1,r2⟩:=h.env t
    show ∃bl,Rep w μ' (look t (s.env.map _)) _ bl∧_;rw [d2o];have r1':Rep w μ2 (look t s.env) (a.tmps.getD t undef) bl:=Rep.only (p:=fun id=>(idx ids id).isSome) (fun id l hp e=>by grind) r1 (c8x he t);exact ⟨bl,Rep.ren (ρ:=ρ) h2 r1',fun b hb=>(r2 b hb).mono2 (o0 b) (o1 b)⟩
  · have e' : (ids[j]?).map (fun id=>(s.O.getD id .dead).renM ρ)=some bk:=by rw [←qma];exact e
    rw [Option.map_eq_some_iff] at e';obtain ⟨id,hid,hbk⟩:=e';have hix:idx ids id=some j:=c6n hn hid;cases hO:s.O[id]? with
    | none=>
      rw [qlo,hO] at hbk;simp only [Option.getD_none] at hbk;subst hbk;trivial
    | some bk' =>
      rw [qlo,hO] at hbk;simp only [Zw] at hbk;have hblk:=h.blk id bk' hO;have hbm:=hb id (qlb hid) bk' hO;have key:∀xs k,(k.isMix=true→Zc (fun id=>(idx ids id).isSome) xs=true)→b5g cx w μ ow s.vw id xs k→b5g cx w μ' ow' s.vw j (bif k.isMix then Zf ρ xs else xs) k:=by
        intro xs k hk ⟨l,q1,q2,q3⟩;have q1':μ' j=some l:=by grind
        have hlen:(bif k.isMix then Zf ρ xs else xs).length=xs.length:=by
          cases k.isMix
          · rfl
          · rw [cond_true,c4m,qlu]
        refine ⟨l,q1',by omega,?_⟩;rcases q3 with ⟨q3,q3'⟩ | ⟨q3,q4,bl2,q5,q6,q7⟩
        · grind
        · refine .inr ⟨q3,oin _ _ _ _ q4 hix,bl2,?_,?_,fun hne e=>q7 hne (qlt.1 (by grind))⟩
          · cases k with
            | flat | thin | deep | shal=>exact q5
            | mix | part=>
              obtain ⟨c1,c2,c3,c,t,vs,c4,c5,c6,c7,c8⟩:=q5;refine ⟨c1,c2,?_,c,t,vs,c4,c5,?_,c7,c8⟩
              · intro x hx
                have hx':x∈Zf ρ xs:=hx;rw [c4m] at hx';obtain ⟨y,hy,rfl⟩:=qmd.1 hx'
                grind[d6c,Zz]
              · show RepL w μ' ((Zf ρ xs).flatMap Za) vs bl2
                rw [f3h];have c6':RepL w μ (xs.flatMap Za) vs bl2:=c6;exact RepL.ren (ρ:=ρ) h2 (RepL.only (p:=fun id=>(idx ids id).isSome) (μ':=μ2) (fun id l hp e=>by grind) c6' (d12 (hk rfl)))
          · cases k with
            | flat | thin=>exact q6
            | deep | part=>exact ⟨q6.1,fun b hb=>oin _ _ _ _ (q6.2 b hb) hix⟩
            | shal | mix=>exact fun b hb=>(q6 b hb).mono2 (o0 b) (o1 b)
      subst hbk;cases bk' with
      | dead=>trivial
      | arr xs k=>exact key xs k (fun q=>by grind[Blk.onlyM]) hblk
      | box x k=>
        have:=key [x] k (fun q=>by grind[Blk.onlyM,Zc]) hblk;show b5g cx w μ' ow' s.vw j [bif k.isMix then Zr ρ x else x] k;cases hq:k.isMix with
        | false=>grind
        | true=>simp_all[cond_true,Zf]
  · grind[Zm,St.compM]
  · have hlt:id < m:=by
      grind
    have:=h.mu id l e
    grind
theorem c2v {m:Nat} {s s':St} (ks ids:List Nat) (hn:ids.Nodup) (hm:∀j,j < m→ids[j]? =some j) (he:∀p∈(s.keep ks).env,p.2.only (fun id=>(idx ids id).isSome)=true)
    (hb:∀id∈ids,∀bk,s.O[id]? =some bk→bk.onlyM (fun id=>(idx ids id).isSome)=true) (e:(s.keep ks).compM ids=s'):b44 m s s':=
  e ▸ b0m (b0a ks s) (f0w ids hn hm he hb)
theorem RepL.len {w μ}:∀{xs:List V} {vs:List Value} {bl:List Nat},RepL w μ xs vs bl→vs.length=xs.length
  | _,_,_,.nil=>rfl
  | _,_,_,.cons v x bl vs xs bl' h ht=>by rw [qme,qme,RepL.len ht]
def b43 (m:Nat) (v:V):List Nat:=(b5u v).filter fun id=>Nat.ble m id
theorem c94 {m:Nat} {s:St} {v:V} {r O'} (h2:v.only (fun id=>Zp id m || (idx (b43 m v) id).isSome)=true) (h3:(b43 m v).Nodup) (hm:m≤s.O.length)
    (h4:v.ren (c1v m (b43 m v))=r) (h5:s.O.take m++(b43 m v).map (fun id=>s.O.getD id .dead)=O') (h6:∀bk∈O',bk.kindIs (fun k=>k != .shal && k.nm)=true) (h7:v.clean=true):b6b m s v r O':=by
  subst h4 h5;unfold b6b;refine ⟨⟨h2,h3,hm⟩,rfl,rfl,fun bk hb=> ?_,.inr ⟨h7,h6⟩⟩;have:=h6 bk hb;cases bk with
  | dead=>rfl
  | arr xs k=>cases k<;>simp_all [Blk.kindIs,Kd.nm]
  | box x k=>cases k<;>simp_all [Blk.kindIs,Kd.nm]
theorem b1g {m:Nat} {s:St} {v:V} {R:V→List Blk→Prop} (hR:R (v.ren (c1v m (b43 m v))) (s.O.take m++(b43 m v).map (fun id=>s.O.getD id .dead))) (hw:s.vw=false:=by rfl)
    (h2:v.only (fun id=>Nat.blt id m || (idx (b43 m v) id).isSome)=true:=by rfl) (h3:(b43 m v).Nodup:=by first | decide | simp [b43,b5u,b9z,c1c]) (hm:m≤s.O.length:=by simp)
    (h6:∀bk∈s.O.take m++(b43 m v).map (fun id=>s.O.getD id .dead),bk.kindIs (fun k=>k.nm)=true:=by simp [b43,b5u,b9z,c1c,Blk.kindIs,b02]):∃r O',R r O'∧b6b m s v r O':=
  ⟨_,_,hR,by
    unfold b6b;exact ⟨⟨h2,h3,hm⟩,rfl,rfl,h6,.inl hw⟩⟩
theorem d2m (id n j:Nat):rho [id] n (j+1)=n+j:=by rfl
theorem g06 (i j k n:Nat):rho [i,j,k] n 0=i:=rfl
theorem g0p (i j k n:Nat):rho [i,j,k] n 1=j:=rfl
theorem g1i (i j k n:Nat):rho [i,j,k] n 2=k:=rfl
theorem g1j (i j k n m:Nat):rho [i,j,k] n (m+3)=n+m:=by
  rfl
theorem c1k {s:St} {f:FuncId} {r:V} {K:V→Prop} {G:Prop} {P args args'} (hc:G→Con P f args' [] r []) (ht:b1u s [] args=some args')
    (hr:r.only (fun _=>false)=true) (hcl:r.clean=true) (hk:K r):∃r,(G→b9g P s f [] args fun v s'=>v=r∧s'={s with O:=s.O++[]})∧K r:=
  ⟨r,fun g=>b7h (hc g) ht (.inl ⟨hcl,by simp⟩) ⟨b7a (by simp) hr,rfl⟩,hk⟩
section
variable {P:Program} {L:c4f} {m:Nat} {Q:AEx→St→Prop} {s:St} {x y:Code}
theorem f3j {S} (h1:∀Q':AEx→St→Prop,(∀s,b44 m s S→Q' .normal s)→(∀i s,Q (.exit i) s→Q' (.exit i) s)→(∀s,Q .ret s→Q' .ret s)→awp P L m x Q' s)
    (h2:awp P L m y Q S):awp P L m (.seq x y) Q s:=
  b0e fun Q' hn he hr=>h1 Q' (fun s hw=>hn s S hw h2) he hr
theorem b4r {A:Type} (S:A→St) (ok:A→Prop)
    (h1:∀Q':AEx→St→Prop,(∀p s,ok p→b44 m s (S p)→Q' .normal s)→(∀i s,Q (.exit i) s→Q' (.exit i) s)→(∀s,Q .ret s→Q' .ret s)→awp P L m x Q' s)
    (h2:∀p,ok p→awp P L m y Q (S p)):awp P L m (.seq x y) Q s:=
  b0e fun Q' hn he hr=>h1 Q' (fun p s hok hw=>hn s (S p) hw (h2 p hok)) he hr
end
theorem b1l {m id:Nat} {s:St} {ops:Array Oper} {P L Q y} (ks:List Nat)
    (h:∀K:St→Prop,(∀s,awp P L m y Q (s.keep ks)→K s)→d3s P L ops K ops.toList s):awp P L m (.seq (.region id ops false) y) Q s:=
  b0e fun _ hn _ _=>b2u fun K k=>h K fun s q=>k s (hn s (s.keep ks) (b0a ks s) q)
theorem d96 {s:St} {f:FuncId} {R:V→List Blk→Prop} {K:V→St→Prop} {P args args'} (hc:b76 P f args' [] R) (ht:b1u s [] args=some args')
    (h:∀r O',R r O'→((r.clean=true∧∀bk∈O',bk.kindIs (fun k=>k != .shal && k.nm)=true)∨(∀x∈args,x.coldIn []=true))∧K (r.ren (rho [] s.O.length)) {s with O:=s.O++O'}):b9g P s f [] args K:=
  ⟨s.O,.inl rfl,args',[],R,ht,rfl,List.nodup_nil,by simp,.inr (by simp),hc,fun r O' hR=>⟨(h r O' hR).1,by grind[b4p]⟩⟩
theorem d0j {s:St} {f:FuncId} {bk:Blk} {R:V→List Blk→Prop} {K:V→St→Prop} {P args args'} (id:Nat) (hc:b76 P f args' [bk] R) (ht:b1u s [id] args=some args')
    (hO:s.O[id]? =some bk) (hbk:bk.kindIs (fun k=>k.nm)=true∧bk≠.dead) (hv:s.vw=false∨bk.kindIs (fun k=>k == .flat)=true)
    (h:∀r O',R r O'→∃bk' O1,O'=bk'::O1∧((r.clean=true∧∀b∈O',b.kindIs (fun k=>k != .shal && k.nm)=true)∨(∀x∈args,x.coldIn [id]=true))∧K (r.ren (rho [id] s.O.length)) {s with O:=s.O.set id bk'++O1}):b9g P s f [id] args K:=
  ⟨s.O,.inl rfl,args',[bk],R,ht,by grind,by simp,by grind,hv.imp (fun h=>h) (fun h=>by grind),hc,fun r O' hR=>by
    grind[b4p]⟩
theorem d4h {s:St} {f:FuncId} {bk bk2:Blk} {R:V→List Blk→Prop} {K:V→St→Prop} {P args args'} (i j:Nat) (hc:b76 P f args' [bk,bk2] R) (ht:b1u s [i,j] args=some args')
    (hO:s.O[i]? =some bk) (hO2:s.O[j]? =some bk2) (hn:i≠j) (hbk:(bk.kindIs (fun k=>k.nm)=true∧bk≠.dead)∧(bk2.kindIs (fun k=>k.nm)=true∧bk2≠.dead)) (hv:s.vw=false)
    (h:∀r O',R r O'→∃b1 b2 O1,O'=b1::b2::O1∧((r.clean=true∧∀b∈O',b.kindIs (fun k=>k != .shal && k.nm)=true)∨(∀x∈args,x.coldIn [i,j]=true))∧K (r.ren (rho [i,j] s.O.length)) {s with O:=(s.O.set i b1).set j b2++O1}):b9g P s f [i,j] args K:=
  ⟨s.O,.inl rfl,args',[bk,bk2],R,ht,by simp_all,by grind,by
    grind,.inl hv,hc,fun r O' hR=>by
    grind[b4p]⟩
theorem g3o (i j n m:Nat):rho [i,j] n (m+2)=n+m:=by
  rfl
theorem f4u (i j n:Nat):rho [i,j] n 0=i:=rfl
theorem f3u (i j n:Nat):rho [i,j] n 1=j:=rfl
theorem g1t {s:St} {o:Oper} {P L rg K rest}
    (h:∀K':St→Prop,(∀s,d3s P L rg K rest s→K' s)→c44 o.dst s.n∧∃j want G,o.guard=some (j,want)∧b01 s rg j want=some G∧(G=true→b1c P L s o fun v s'=>K' (s'.set o.dst (.opt true v)))∧(G=false→∃v,K' (s.set o.dst (.opt false v)))):d3s P L rg K (o::rest) s:=
  .inr (h _ fun _ h=>h)
theorem d52 {s:St} {o:Oper} {K:St→Prop} {P L rg} (j:Nat) (want:Bool) {G:Bool} {f:FuncId} {args args':List V} {bk:Blk} {R:V→List Blk→Prop} {id:Nat} (hd:c44 o.dst s.n) (hg:o.guard=some (j,want))
    (hv:b01 s rg j want=some G) (hc:G=true→b76 P f args' [bk] R) (he:G=true→∀F:V→St→Prop,b9g P s f [id] args F→b1c P L s o F) (hsame:∃r,R r [bk])
    (ht:b1u s [id] args=some args') (hO:s.O[id]? =some bk) (hbk:bk.kindIs (fun k=>k.nm)=true∧bk≠.dead) (hw:s.vw=false∨bk.kindIs (fun k=>k == .flat)=true)
    (h:∀r O',R r O'→∃bk',O'=[bk']∧(r.clean=true∧r.only (fun _=>false)=true∧bk'.kindIs (fun k=>k.nm)=true∧(bk'.kindIs (fun k=>k != .shal && k.nm)=true∨∀x∈args,x.coldIn [id]=true))∧K (({s with O:=s.O.set id bk'}:St).set o.dst (.opt G r))) :
    c44 o.dst s.n∧∃j want G,o.guard=some (j,want)∧b01 s rg j want=some G∧(G=true→b1c P L s o fun v s'=>K (s'.set o.dst (.opt true v)))∧(G=false→∃v,K (s.set o.dst (.opt false v))):=by
  refine ⟨hd,j,want,G,hg,hv,fun hG=> ?_,fun hG=> ?_⟩
  · subst hG
    refine he rfl _ (d0j id (hc rfl) ht hO hbk hw fun r O' hR=> ?_);obtain ⟨bk',rfl,⟨h1,h2,h3,h4⟩,h5⟩:=h r O' hR;refine ⟨bk',[],rfl,h4.imp (fun q=>⟨h1,by grind⟩) (fun q=>q),?_⟩;rw [b7a (by simp) h2,qml];omega
  · subst hG
    obtain ⟨r,hr⟩:=hsame;obtain ⟨bk',e,_,h5⟩:=h r _ hr;simp only [List.cons.injEq,and_true] at e;subst e;refine ⟨r,?_⟩;have:s.O.set id bk=s.O:=by
      apply Zs;intro _
      grind
    simp_all
end Go.Vm
namespace Go.Vm
open Go Go.RowKit
theorem d09 {l1 l2:List (Nat×(Array Value→Prop))} {w} (h1:d1w w l1) (h2:d1w w l2):d1w w (l1++l2):=fun p hp=>(qll.1 hp).elim (h1 p) (h2 p)
theorem c37 {P:Program} {n:String} {q:Array Value→Prop} {w} (h:P.globalNamed n=none):d1w w (f4b P n q):=by
  intro _ _
  grind[f4b]
theorem f5q {P:Program} (h:P.globalNamed "internal/strconv.uint64pow10" =none) (h1:P.globalNamed "strconv.ErrSyntax" =none) (h2:P.globalNamed "strconv.ErrRange" =none) {w:World}:d1w w (c3j P):=
  d09 (c37 h) (d09 (c37 h1) (c37 h2))
end Go.Vm
namespace Go.Vm
open Go
structure Tys (p:Prop):Prop where
  h:p
structure Fc (p:Prop):Prop where
  h:p
structure Ho (p:Prop):Prop where
  h:p
structure Sd (p:Prop):Prop where
  h:p
theorem g1b {xs:List V} {i n:Nat} {y:V} (h:∀x∈xs,x.cells.length=n) (hy:y.cells.length=n):∀x∈xs.set i y,x.cells.length=n:=by
  intro x hx;rcases List.mem_or_eq_of_mem_set hx with q | q
  · exact h x q
  · rw [q];exact hy
theorem gdm {α:Type} {l:List α} {i:Nat} {x:α} (h:l[i]? =some x):∀f:α→V,(l.map f).getD i .any=f x:=fun _=>b3u h
theorem ai {a b:Prop} (h:a) (k:b):a∧b:=⟨h,k⟩
theorem b4u {A B:Prop} (b:B) (a:A:=by first | omega | (intros;omega) | (exact c8b (fun _=>rfl) rfl) | (exact g1b (fun x hx=>by obtain ⟨t,_,rfl⟩:=qmd.1 hx;rfl) rfl) | (have q:=‹Sd _›;exact q.h _) | (intros;simp_all;done) | (intros;simp_all;omega)):A∧B:=⟨a,b⟩
theorem d43 {A B:Prop} (b:B) (a:A:=by first | rfl | (intros;simp_all;done)):A∧B:=⟨a,b⟩
theorem rta {m:Nat} {s:St} {v:V} {r O'} (h2:v.only (fun id=>Nat.blt id m || (idx (b43 m v) id).isSome)=true:=by rfl) (h3:(b43 m v).Nodup:=by first | decide | simp [b43,b5u,b9z,c1c]) (hm:m≤s.O.length:=by simp)
    (h4:v.ren (c1v m (b43 m v))=r:=by rfl) (h5:s.O.take m++(b43 m v).map (fun id=>s.O.getD id .dead)=O':=by simp [b43,b5u,b9z,c1c]) (h6:∀bk∈O',bk.kindIs (fun k=>k != .shal && k.nm)=true:=by simp [Blk.kindIs,b4c]) (h7:v.clean=true:=by rfl):b6b m s v r O':=c94 h2 h3 hm h4 h5 h6 h7
theorem b33 {s:St} {o:Oper} {d j:Nat} {want:Bool} {P L rg K rest} (hd:o.dst=some d) (hn:Zp d s.n=true) (hg:o.guard=some (j,want)) (hv:b01 s rg j want=some false) (h:d3s P L rg K rest (s.set (some d) (.opt false .any))):d3s P L rg K (o::rest) s:=
  f4f d j want hd (by rwa [Nat.blt_eq] at hn) hg hv h
theorem d5x {A B:Prop} (e:Ho B→A:=by
  intro b;apply b5y;intro K k;simp only [zE,zS,zO,zN,b0x,b0s,b0j,Nat.reduceEqDiff,reduceIte,Nat.reduceLT,implies_true,forall_const,reduceCtorEq,V.ofValue,V.ofScalar,V.un,V.gd,b1c,aop,Nat.reduceAdd,Value.oneCell',V.isVal,V.cells,b4h,b2m,V.noSl,V.noRef,List.all_cons,List.all_nil,List.map_cons,List.map_nil,gt_iff_lt,Nat.reduceLeDiff,Nat.reduceMul,b0w,‹Tys _›.h,‹Fc _›.h];repeat (refine b4u ?_)
  apply k _;clear k K;exact b.h) (b:B):A:=e ⟨b⟩
theorem g5r {A B:Prop} (e:Ho B→A:=by
  intro b;first
  | apply b33 rfl rfl rfl
    · first | rfl | (simp only [zV,b01,Nat.reduceEqDiff,reduceIte];done)
    simp only [zW,b0j,Nat.reduceEqDiff,reduceIte]
  | skip
    apply b5y;intro K k;simp only [zE,zS,zO,zV,zN,b0x,b0s,b0j,Nat.reduceEqDiff,reduceIte,Nat.reduceLT,implies_true,forall_const,reduceCtorEq,V.ofValue,V.ofScalar,V.un,V.gd,b01,V.wrap,b1c,aop,Nat.reduceAdd,Value.oneCell',V.isVal,V.cells,b4h,b2m,V.noSl,V.noRef,List.all_cons,List.all_nil,List.map_cons,List.map_nil,gt_iff_lt,Nat.reduceLeDiff,Nat.reduceMul,b0w,‹Tys _›.h,‹Fc _›.h];repeat (refine b4u ?_)
    apply k _;clear k K
  exact b.h) (b:B):A:=e ⟨b⟩
theorem c5u {A B:Prop} (e:Ho B→A:=by
  intro b;apply b5y;intro K k;simp only [zE,zL,zO,zN,b0x,b0s,b0j,Nat.reduceEqDiff,reduceIte,Nat.reduceLT,implies_true,forall_const,reduceCtorEq,V.ofValue,V.ofScalar,V.un,V.gd,b1c,aop,c2f,beq_self_eq_true,List.nodup_cons,List.mem_singleton,forall_eq',List.size_toArray,List.getD_eq_getElem?_getD,Array.getD_eq_getD_getElem?,Option.getD_some,b62,c7q,c5p,b37,b9k,b1v,b2x,b1k,Blk.row,b4d,V.isSub,V.noSl,Value.cells,Option.toList,List.forall_mem_map,List.length_map,List.all_cons,List.all_nil,List.isEmpty_nil,List.isEmpty_cons,List.not_mem_nil,List.nodup_nil,c1h,c86,c15,c7m,c7n,b8w,c0h,List.mem_cons,or_false,forall_eq_or_imp,forall_eq,List.set_cons_zero,List.set_cons_succ,List.length_append,Go.Vm.V.cells,Nat.reduceAdd,Nat.reduceLeDiff,Nat.reduceMul,b0w,Value.oneCell',‹Tys _›.h,‹Fc _›.h];repeat (refine b4u ?_)
  apply k _;clear k K;exact b.h) (b:B):A:=e ⟨b⟩
theorem g5a {A B:Prop} (e:Ho B→A:=by
  intro b;first
  | apply b33 rfl rfl rfl
    · first | rfl | (simp only [zV,b01,Nat.reduceEqDiff,reduceIte];done)
    simp only [zW,b0j,Nat.reduceEqDiff,reduceIte]
  | skip
    apply b5y;intro K k;simp only [zE,zL,zO,zN,b0x,b0s,b0j,Nat.reduceEqDiff,reduceIte,Nat.reduceLT,implies_true,forall_const,reduceCtorEq,V.ofValue,V.ofScalar,V.un,V.gd,b01,V.wrap,b1c,aop,c2f,beq_self_eq_true,List.nodup_cons,List.mem_singleton,forall_eq',List.size_toArray,List.getD_eq_getElem?_getD,Array.getD_eq_getD_getElem?,Option.getD_some,b62,c7q,c5p,b37,b9k,b1v,b2x,b1k,Blk.row,b4d,V.isSub,V.noSl,Value.cells,Option.toList,List.forall_mem_map,List.length_map,List.all_cons,List.all_nil,List.isEmpty_nil,List.isEmpty_cons,List.not_mem_nil,List.nodup_nil,c1h,c86,c15,c7m,c7n,b8w,c0h,List.mem_cons,or_false,forall_eq_or_imp,forall_eq,List.set_cons_zero,List.set_cons_succ,List.length_append,Go.Vm.V.cells,Nat.reduceAdd,Nat.reduceLeDiff,Nat.reduceMul,b0w,Value.oneCell',‹Tys _›.h,‹Fc _›.h];repeat (refine b4u ?_)
    apply k _;clear k K
  exact b.h) (b:B):A:=e ⟨b⟩
theorem b2h {A B:Prop} (e:Ho B→A:=by
  intro b;apply b5y;intro K k;simp only [zE,zS,b0x,b0s,b0j,Nat.reduceEqDiff,reduceIte,Nat.reduceLT,implies_true,forall_const,reduceCtorEq,V.ofValue,V.ofScalar,V.un,V.gd,b1c,aop,Nat.reduceAdd,b0w,Value.oneCell',List.all_cons,List.all_nil,Bool.and_self,‹Tys _›.h,‹Fc _›.h];repeat (refine b4u ?_)
  apply k _;clear k K;exact b.h) (b:B):A:=e ⟨b⟩
theorem f7a {A B:Prop} (e:Ho B→A:=by
  intro b;first
  | apply b33 rfl rfl rfl
    · first | rfl | (simp only [zV,b01,Nat.reduceEqDiff,reduceIte];done)
    simp only [zW,b0j,Nat.reduceEqDiff,reduceIte]
  | skip
    apply b5y;intro K k;simp only [zE,zS,zG,b0x,b0s,b0j,Nat.reduceEqDiff,reduceIte,Nat.reduceLT,implies_true,forall_const,reduceCtorEq,V.ofValue,V.ofScalar,V.un,V.gd,b01,V.wrap,b1c,aop,Nat.reduceAdd,b0w,Value.oneCell',List.all_cons,List.all_nil,Bool.and_self,‹Tys _›.h,‹Fc _›.h];repeat (refine b4u ?_)
    apply k _;clear k K
  exact b.h) (b:B):A:=e ⟨b⟩
theorem d8q {A B:Prop} (e:Ho B→A:=by
  intro b;apply b5y;intro K k;simp only [zE,b0x,b0s,b0j,Nat.reduceEqDiff,reduceIte,Nat.reduceLT,implies_true,forall_const,reduceCtorEq,V.ofValue,V.ofScalar,V.un,V.gd,b1c,aop,d3u,c2z,or_true,true_or,or_false,false_or,EK.fitsL,EK.fits,b42,b7s,b0w,Value.oneCell',List.all_cons,List.all_nil,Bool.and_self,‹Tys _›.h,‹Fc _›.h];repeat (refine b4u ?_)
  apply k _;clear k K;exact b.h) (b:B):A:=e ⟨b⟩
theorem b46 {A B:Prop} (e:Ho B→A:=by
  intro b;apply b5y;intro K k;simp only [zE,b0x,b0s,b0j,Nat.reduceEqDiff,reduceIte,Nat.reduceLT,implies_true,forall_const,reduceCtorEq,V.ofValue,V.ofScalar,V.un,V.gd,b1c,aop,d3u,c2z,or_true,true_or,or_false,false_or,EK.fitsL,EK.fits,b42,b7s,b0w,Value.oneCell',List.all_cons,List.all_nil,Bool.and_self,‹Tys _›.h,‹Fc _›.h];try simp (disch:=omega) only [c3k]
  repeat (refine b4u ?_)
  apply k _;clear k K;exact b.h) (b:B):A:=e ⟨b⟩
theorem b5q {A B:Prop} (e:Ho B→A:=by
  intro b;first
  | apply b33 rfl rfl rfl
    · first | rfl | (simp only [zV,b01,Nat.reduceEqDiff,reduceIte];done)
    simp only [zW,b0j,Nat.reduceEqDiff,reduceIte]
  | skip
    apply b5y;intro K k;simp only [zE,zG,b0x,b0s,b0j,Nat.reduceEqDiff,reduceIte,Nat.reduceLT,implies_true,forall_const,reduceCtorEq,V.ofValue,V.ofScalar,V.un,V.gd,b01,V.wrap,b1c,aop,d3u,c2z,or_true,true_or,or_false,false_or,EK.fitsL,EK.fits,b42,b7s,b0w,Value.oneCell',List.all_cons,List.all_nil,Bool.and_self,‹Tys _›.h,‹Fc _›.h];repeat (refine b4u ?_)
    apply k _;clear k K
  exact b.h) (b:B):A:=e ⟨b⟩
theorem c8k {A B:Prop} (e:Ho B→A:=by
  intro b;first
  | apply b33 rfl rfl rfl
    · first | rfl | (simp only [zV,b01,Nat.reduceEqDiff,reduceIte];done)
    simp only [zW,b0j,Nat.reduceEqDiff,reduceIte]
  | skip
    apply b5y;intro K k;simp only [zE,zG,b0x,b0s,b0j,Nat.reduceEqDiff,reduceIte,Nat.reduceLT,implies_true,forall_const,reduceCtorEq,V.ofValue,V.ofScalar,V.un,V.gd,b01,V.wrap,b1c,aop,d3u,c2z,or_true,true_or,or_false,false_or,EK.fitsL,EK.fits,b42,b7s,b0w,Value.oneCell',List.all_cons,List.all_nil,Bool.and_self,‹Tys _›.h,‹Fc _›.h];try simp (disch:=omega) only [c3k]
    repeat (refine b4u ?_)
    apply k _;clear k K
  exact b.h) (b:B):A:=e ⟨b⟩
theorem g2p {A B:Prop} (e:Ho B→A:=by
  intro b;apply b5y;intro K k;simp only [zE,zS,zO,zN,b0x,b0s,b0j,Nat.reduceEqDiff,reduceIte,Nat.reduceLT,implies_true,forall_const,reduceCtorEq,V.ofValue,V.ofScalar,V.un,V.gd,b1c,aop,Nat.reduceAdd,V.isVal,V.cells,b4h,b2m,V.noSl,V.noRef,List.all_cons,List.all_nil,List.length_map,gt_iff_lt,Nat.reduceLeDiff,Nat.reduceMul,b0w,Value.oneCell',‹Tys _›.h,‹Fc _›.h];repeat (refine b4u ?_)
  apply k _;clear k K;exact b.h) (b:B):A:=e ⟨b⟩
theorem g1x {A B:Prop} (e:Ho B→A:=by
  intro b;first
  | apply b33 rfl rfl rfl
    · first | rfl | (simp only [zV,b01,Nat.reduceEqDiff,reduceIte];done)
    simp only [zW,b0j,Nat.reduceEqDiff,reduceIte]
  | skip
    apply b5y;intro K k;simp only [zE,zS,zO,zV,zN,b0x,b0s,b0j,Nat.reduceEqDiff,reduceIte,Nat.reduceLT,implies_true,forall_const,reduceCtorEq,V.ofValue,V.ofScalar,V.un,V.gd,b01,V.wrap,b1c,aop,Nat.reduceAdd,V.isVal,V.cells,b4h,b2m,V.noSl,V.noRef,List.all_cons,List.all_nil,List.length_map,gt_iff_lt,Nat.reduceLeDiff,Nat.reduceMul,b0w,Value.oneCell',‹Tys _›.h,‹Fc _›.h];repeat (refine b4u ?_)
    apply k _;clear k K
  exact b.h) (b:B):A:=e ⟨b⟩
theorem c7k {A B:Prop} (e:Ho B→A:=by
  intro b;apply b5y;intro K k;simp only [zE,zL,zO,zN,b0x,b0s,b0j,Nat.reduceEqDiff,reduceIte,Nat.reduceLT,implies_true,forall_const,reduceCtorEq,V.ofValue,V.ofScalar,V.un,V.gd,b1c,aop,c55,if_true,Nat.zero_mul,Nat.one_mul,Nat.mul_one,V.isVal,V.cells,List.mem_cons,List.not_mem_nil,or_false,forall_eq_or_imp,forall_eq,Nat.reduceAdd,Nat.reduceLeDiff,Nat.reduceMul,b0w,Value.oneCell',List.all_cons,List.all_nil,‹Tys _›.h,‹Fc _›.h];repeat (refine b4u ?_)
  apply k _;clear k K;exact b.h) (b:B):A:=e ⟨b⟩
theorem f9x {A B:Prop} (e:Ho B→A:=by
  intro b;first
  | apply b33 rfl rfl rfl
    · first | rfl | (simp only [zV,b01,Nat.reduceEqDiff,reduceIte];done)
    simp only [zW,b0j,Nat.reduceEqDiff,reduceIte]
  | skip
    apply b5y;intro K k;simp only [zE,zL,zO,zN,b0x,b0s,b0j,Nat.reduceEqDiff,reduceIte,Nat.reduceLT,implies_true,forall_const,reduceCtorEq,V.ofValue,V.ofScalar,V.un,V.gd,b01,V.wrap,b1c,aop,c55,if_true,Nat.zero_mul,Nat.one_mul,Nat.mul_one,V.isVal,V.cells,List.mem_cons,List.not_mem_nil,or_false,forall_eq_or_imp,forall_eq,Nat.reduceAdd,Nat.reduceLeDiff,Nat.reduceMul,b0w,Value.oneCell',List.all_cons,List.all_nil,‹Tys _›.h,‹Fc _›.h];repeat (refine b4u ?_)
    apply k _;clear k K
  exact b.h) (b:B):A:=e ⟨b⟩
theorem b2c {A B:Prop} (e:Ho B→A:=by
  intro b;apply b5y;intro K k;simp only [zE,zO,zN,b0x,b0s,b0j,Nat.reduceEqDiff,reduceIte,Nat.reduceLT,implies_true,forall_const,reduceCtorEq,V.ofValue,V.ofScalar,V.un,V.gd,b1c,aop,b7z,g08,g0v,g1l,g0q,g04,g03,g1g,g0w,g1f,g07,g4f,f2p,f2z,List.map_cons,List.map_nil,List.all_cons,List.all_nil,V.isVal,V.cells,b3z,b0w,b2m,V.noRef,V.noSl,List.mem_cons,List.not_mem_nil,or_false,forall_eq_or_imp,forall_eq,if_true,Option.isSome_some,List.length_cons,List.length_nil,Nat.reduceAdd,Nat.reduceLeDiff,Nat.reduceMul,Value.oneCell',‹Tys _›.h,‹Fc _›.h];repeat (refine b4u ?_)
  apply k _;clear k K;exact b.h) (b:B):A:=e ⟨b⟩
theorem d5v {A B:Prop} (e:Ho B→A:=by
  intro b;first
  | apply b33 rfl rfl rfl
    · first | rfl | (simp only [zV,b01,Nat.reduceEqDiff,reduceIte];done)
    simp only [zW,b0j,Nat.reduceEqDiff,reduceIte]
  | skip
    apply b5y;intro K k;simp only [zE,zO,zV,zN,b0x,b0s,b0j,Nat.reduceEqDiff,reduceIte,Nat.reduceLT,implies_true,forall_const,reduceCtorEq,V.ofValue,V.ofScalar,V.un,V.gd,b01,V.wrap,b1c,aop,b7z,g08,g0v,g1l,g0q,g04,g03,g1g,g0w,g1f,g07,g4f,f2p,f2z,List.map_cons,List.map_nil,List.all_cons,List.all_nil,V.isVal,V.cells,b3z,b0w,b2m,V.noRef,V.noSl,List.mem_cons,List.not_mem_nil,or_false,forall_eq_or_imp,forall_eq,if_true,Option.isSome_some,List.length_cons,List.length_nil,Nat.reduceAdd,Nat.reduceLeDiff,Nat.reduceMul,Value.oneCell',‹Tys _›.h,‹Fc _›.h];repeat (refine b4u ?_)
    apply k _;clear k K
  exact b.h) (b:B):A:=e ⟨b⟩
theorem g00 {A B:Prop} (e:Ho B→A:=by
  intro b;apply b5y;intro K k;simp only [zE,zL,zO,zN,b0x,b0s,b0j,Nat.reduceEqDiff,reduceIte,Nat.reduceLT,implies_true,forall_const,reduceCtorEq,V.ofValue,V.ofScalar,V.un,V.gd,b1c,aop,List.set_cons_zero,List.set_cons_succ,c3o,b3z,b0w,V.isVal,V.cells,V.noRef,List.size_toArray,List.getD_eq_getElem?_getD,Array.getD_eq_getD_getElem?,Option.getD_some,List.forall_mem_map,List.all_cons,List.all_nil,List.length_map,Value.oneCell',Nat.reduceAdd,Nat.reduceLeDiff,Nat.reduceMul,‹Tys _›.h,‹Fc _›.h];repeat (refine b4u ?_)
  apply k _;clear k K;exact b.h) (b:B):A:=e ⟨b⟩
theorem g5k {A B:Prop} (e:Ho B→A:=by
  intro b;first
  | apply b33 rfl rfl rfl
    · first | rfl | (simp only [zV,b01,Nat.reduceEqDiff,reduceIte];done)
    simp only [zW,b0j,Nat.reduceEqDiff,reduceIte]
  | skip
    apply b5y;intro K k;simp only [zE,zL,zO,zN,b0x,b0s,b0j,Nat.reduceEqDiff,reduceIte,Nat.reduceLT,implies_true,forall_const,reduceCtorEq,V.ofValue,V.ofScalar,V.un,V.gd,b01,V.wrap,b1c,aop,List.set_cons_zero,List.set_cons_succ,c3o,b3z,b0w,V.isVal,V.cells,V.noRef,List.size_toArray,List.getD_eq_getElem?_getD,Array.getD_eq_getD_getElem?,Option.getD_some,List.forall_mem_map,List.all_cons,List.all_nil,List.length_map,Value.oneCell',Nat.reduceAdd,Nat.reduceLeDiff,Nat.reduceMul,‹Tys _›.h,‹Fc _›.h];repeat (refine b4u ?_)
    apply k _;clear k K
  exact b.h) (b:B):A:=e ⟨b⟩
theorem c4o {A B:Prop} (e:Ho B→A:=by
  intro b;apply b5y;intro K k;simp only [zE,zL,zN,b0x,b0s,b0j,Nat.reduceEqDiff,reduceIte,Nat.reduceLT,implies_true,forall_const,reduceCtorEq,V.ofValue,V.ofScalar,V.un,V.gd,b1c,aop,c3d,b1k,Blk.row,TypeDesc.slice.injEq,Nat.reduceAdd,Nat.reduceLeDiff,Nat.reduceMul,b0w,Value.oneCell',List.all_cons,List.all_nil,Bool.and_self,‹Tys _›.h,‹Fc _›.h];repeat (refine b4u ?_)
  apply k _;clear k K;exact b.h) (b:B):A:=e ⟨b⟩
theorem f5m {A B:Prop} (e:Ho B→A:=by
  intro b;first
  | apply b33 rfl rfl rfl
    · first | rfl | (simp only [zV,b01,Nat.reduceEqDiff,reduceIte];done)
    simp only [zW,b0j,Nat.reduceEqDiff,reduceIte]
  | skip
    apply b5y;intro K k;simp only [zE,zL,zN,b0x,b0s,b0j,Nat.reduceEqDiff,reduceIte,Nat.reduceLT,implies_true,forall_const,reduceCtorEq,V.ofValue,V.ofScalar,V.un,V.gd,b01,V.wrap,b1c,aop,c3d,b1k,Blk.row,TypeDesc.slice.injEq,Nat.reduceAdd,Nat.reduceLeDiff,Nat.reduceMul,b0w,Value.oneCell',List.all_cons,List.all_nil,Bool.and_self,‹Tys _›.h,‹Fc _›.h];repeat (refine b4u ?_)
    apply k _;clear k K
  exact b.h) (b:B):A:=e ⟨b⟩
theorem g1s {A B:Prop} (e:Ho B→A:=by
  intro b;apply b5y;intro K k;simp only [zE,zL,zO,zN,b0x,b0s,b0j,Nat.reduceEqDiff,reduceIte,Nat.reduceLT,implies_true,forall_const,reduceCtorEq,V.ofValue,V.ofScalar,V.un,V.gd,b1c,aop,c7r,d0p,c5p,b1k,Blk.row,c1h,c15,c7n,c7m,c25,List.set_cons_zero,List.set_cons_succ,List.forall_mem_map,List.length_map,Go.Vm.V.cells,V.noSl,List.size_toArray,List.getD_eq_getElem?_getD,Array.getD_eq_getD_getElem?,Option.getD_some,TypeDesc.slice.injEq,Nat.reduceAdd,Nat.reduceLeDiff,Nat.reduceMul,b0w,Value.oneCell',List.all_cons,List.all_nil,‹Tys _›.h,‹Fc _›.h];repeat (refine b4u ?_)
  apply k _;clear k K;exact b.h) (b:B):A:=e ⟨b⟩
theorem g05 {A B:Prop} (e:Ho B→A:=by
  intro b;first
  | apply b33 rfl rfl rfl
    · first | rfl | (simp only [zV,b01,Nat.reduceEqDiff,reduceIte];done)
    simp only [zW,b0j,Nat.reduceEqDiff,reduceIte]
  | skip
    apply b5y;intro K k;simp only [zE,zL,zO,zN,b0x,b0s,b0j,Nat.reduceEqDiff,reduceIte,Nat.reduceLT,implies_true,forall_const,reduceCtorEq,V.ofValue,V.ofScalar,V.un,V.gd,b01,V.wrap,b1c,aop,c7r,d0p,c5p,b1k,Blk.row,c1h,c15,c7n,c7m,c25,List.set_cons_zero,List.set_cons_succ,List.forall_mem_map,List.length_map,Go.Vm.V.cells,V.noSl,List.size_toArray,List.getD_eq_getElem?_getD,Array.getD_eq_getD_getElem?,Option.getD_some,TypeDesc.slice.injEq,Nat.reduceAdd,Nat.reduceLeDiff,Nat.reduceMul,b0w,Value.oneCell',List.all_cons,List.all_nil,‹Tys _›.h,‹Fc _›.h];repeat (refine b4u ?_)
    apply k _;clear k K
  exact b.h) (b:B):A:=e ⟨b⟩
theorem b8e {A B:Prop} (e:Ho B→A:=by
  intro b;apply b5y;intro K k;simp only [zE,zL,zN,b0x,b0s,b0j,Nat.reduceEqDiff,reduceIte,Nat.reduceLT,implies_true,forall_const,reduceCtorEq,V.ofValue,V.ofScalar,V.un,V.gd,b1c,aop,List.mem_cons,List.not_mem_nil,or_false,forall_eq_or_imp,forall_eq,b3i,b1k,Blk.row,Go.Vm.V.cells,List.forall_mem_map,List.length_map,Int.toNat_natCast,Int.reduceToNat,TypeDesc.slice.injEq,Nat.reduceAdd,Nat.reduceLeDiff,Nat.reduceMul,b0w,Value.oneCell',List.all_cons,List.all_nil,Bool.and_self,‹Tys _›.h,‹Fc _›.h];repeat (refine b4u ?_)
  apply k _;clear k K;exact b.h) (b:B):A:=e ⟨b⟩
theorem c00 {A B:Prop} (e:Ho B→A:=by
  intro b;first
  | apply b33 rfl rfl rfl
    · first | rfl | (simp only [zV,b01,Nat.reduceEqDiff,reduceIte];done)
    simp only [zW,b0j,Nat.reduceEqDiff,reduceIte]
  | skip
    apply b5y;intro K k;simp only [zE,zL,zN,b0x,b0s,b0j,Nat.reduceEqDiff,reduceIte,Nat.reduceLT,implies_true,forall_const,reduceCtorEq,V.ofValue,V.ofScalar,V.un,V.gd,b01,V.wrap,b1c,aop,List.mem_cons,List.not_mem_nil,or_false,forall_eq_or_imp,forall_eq,b3i,b1k,Blk.row,Go.Vm.V.cells,List.forall_mem_map,List.length_map,Int.toNat_natCast,Int.reduceToNat,TypeDesc.slice.injEq,Nat.reduceAdd,Nat.reduceLeDiff,Nat.reduceMul,b0w,Value.oneCell',List.all_cons,List.all_nil,Bool.and_self,‹Tys _›.h,‹Fc _›.h];repeat (refine b4u ?_)
    apply k _;clear k K
  exact b.h) (b:B):A:=e ⟨b⟩
theorem g4m {A B:Prop} (e:Ho B→A:=by
  intro b;apply b5y;intro K k;simp only [zE,zL,zN,b0x,b0s,b0j,Nat.reduceEqDiff,reduceIte,Nat.reduceLT,implies_true,forall_const,reduceCtorEq,V.ofValue,V.ofScalar,V.un,V.gd,b1c,aop,List.length_map,f4q,c20,b1k,Blk.row,List.size_toArray,List.getD_eq_getElem?_getD,Array.getD_eq_getD_getElem?,Option.getD_some,Nat.reduceAdd,Nat.reduceLeDiff,Nat.reduceMul,b0w,Value.oneCell',List.all_cons,List.all_nil,Bool.and_self,‹Tys _›.h,‹Fc _›.h];repeat (refine b4u ?_)
  apply k _;clear k K;exact b.h) (b:B):A:=e ⟨b⟩
theorem d7v {A B:Prop} (e:Ho B→A:=by
  intro b;first
  | apply b33 rfl rfl rfl
    · first | rfl | (simp only [zV,b01,Nat.reduceEqDiff,reduceIte];done)
    simp only [zW,b0j,Nat.reduceEqDiff,reduceIte]
  | skip
    apply b5y;intro K k;simp only [zE,zL,zN,b0x,b0s,b0j,Nat.reduceEqDiff,reduceIte,Nat.reduceLT,implies_true,forall_const,reduceCtorEq,V.ofValue,V.ofScalar,V.un,V.gd,b01,V.wrap,b1c,aop,List.length_map,f4q,c20,b1k,Blk.row,List.size_toArray,List.getD_eq_getElem?_getD,Array.getD_eq_getD_getElem?,Option.getD_some,Nat.reduceAdd,Nat.reduceLeDiff,Nat.reduceMul,b0w,Value.oneCell',List.all_cons,List.all_nil,Bool.and_self,‹Tys _›.h,‹Fc _›.h];repeat (refine b4u ?_)
    apply k _;clear k K
  exact b.h) (b:B):A:=e ⟨b⟩
theorem d5m {A B:Prop} (e:Ho B→A:=by
  intro b;apply b5y;intro K k;simp only [zE,zL,zO,zN,b0x,b0s,b0j,Nat.reduceEqDiff,reduceIte,Nat.reduceLT,implies_true,forall_const,reduceCtorEq,V.ofValue,V.ofScalar,V.un,V.gd,b1c,aop,b9i,b1k,Blk.row,c06,Go.Vm.part,V.cells,V.noSl,V.noRef,Nat.reduceAdd,Nat.reduceLeDiff,Nat.reduceMul,b0w,Value.oneCell',List.all_cons,List.all_nil,‹Tys _›.h,‹Fc _›.h];repeat (refine b4u ?_)
  apply k _;clear k K;exact b.h) (b:B):A:=e ⟨b⟩
theorem c0e {A B:Prop} (e:Ho B→A:=by
  intro b;first
  | apply b33 rfl rfl rfl
    · first | rfl | (simp only [zV,b01,Nat.reduceEqDiff,reduceIte];done)
    simp only [zW,b0j,Nat.reduceEqDiff,reduceIte]
  | skip
    apply b5y;intro K k;simp only [zE,zL,zO,zN,b0x,b0s,b0j,Nat.reduceEqDiff,reduceIte,Nat.reduceLT,implies_true,forall_const,reduceCtorEq,V.ofValue,V.ofScalar,V.un,V.gd,b01,V.wrap,b1c,aop,b9i,b1k,Blk.row,c06,Go.Vm.part,V.cells,V.noSl,V.noRef,Nat.reduceAdd,Nat.reduceLeDiff,Nat.reduceMul,b0w,Value.oneCell',List.all_cons,List.all_nil,‹Tys _›.h,‹Fc _›.h];repeat (refine b4u ?_)
    apply k _;clear k K
  exact b.h) (b:B):A:=e ⟨b⟩
theorem f2f {A B:Prop} (e:Ho B→A:=by
  intro b;apply b5y;intro K k;simp only [zE,zL,b0x,b0s,b0j,Nat.reduceEqDiff,reduceIte,Nat.reduceLT,implies_true,forall_const,reduceCtorEq,V.ofValue,V.ofScalar,V.un,V.gd,b1c,aop,b0w,Value.oneCell',List.all_cons,List.all_nil,Bool.and_self,‹Tys _›.h,‹Fc _›.h];repeat (refine b4u ?_)
  apply k _;clear k K;exact b.h) (b:B):A:=e ⟨b⟩
theorem f0z {A B:Prop} (e:Ho B→A:=by
  intro b;first
  | apply b33 rfl rfl rfl
    · first | rfl | (simp only [zV,b01,Nat.reduceEqDiff,reduceIte];done)
    simp only [zW,b0j,Nat.reduceEqDiff,reduceIte]
  | skip
    apply b5y;intro K k;simp only [zE,zL,b0x,b0s,b0j,Nat.reduceEqDiff,reduceIte,Nat.reduceLT,implies_true,forall_const,reduceCtorEq,V.ofValue,V.ofScalar,V.un,V.gd,b01,V.wrap,b1c,aop,b0w,Value.oneCell',List.all_cons,List.all_nil,Bool.and_self,‹Tys _›.h,‹Fc _›.h];repeat (refine b4u ?_)
    apply k _;clear k K
  exact b.h) (b:B):A:=e ⟨b⟩
theorem f0e {A B:Prop} (e:Ho B→A:=by
  intro b;apply b5y;intro K k;simp only [zE,zL,zO,zN,b0x,b0s,b0j,Nat.reduceEqDiff,reduceIte,Nat.reduceLT,implies_true,forall_const,reduceCtorEq,V.ofValue,V.ofScalar,V.un,V.gd,b1c,aop,b3z,V.isVal,V.cells,V.noRef,V.noSl,Int.toNat_natCast,Nat.reduceAdd,Nat.reduceLeDiff,Nat.reduceMul,b0w,Value.oneCell',List.all_cons,List.all_nil,‹Tys _›.h,‹Fc _›.h];repeat (refine b4u ?_)
  apply k _;clear k K;exact b.h) (b:B):A:=e ⟨b⟩
theorem d7o {A B:Prop} (e:Ho B→A:=by
  intro b;first
  | apply b33 rfl rfl rfl
    · first | rfl | (simp only [zV,b01,Nat.reduceEqDiff,reduceIte];done)
    simp only [zW,b0j,Nat.reduceEqDiff,reduceIte]
  | skip
    apply b5y;intro K k;simp only [zE,zL,zO,zN,b0x,b0s,b0j,Nat.reduceEqDiff,reduceIte,Nat.reduceLT,implies_true,forall_const,reduceCtorEq,V.ofValue,V.ofScalar,V.un,V.gd,b01,V.wrap,b1c,aop,b3z,V.isVal,V.cells,V.noRef,V.noSl,Int.toNat_natCast,Nat.reduceAdd,Nat.reduceLeDiff,Nat.reduceMul,b0w,Value.oneCell',List.all_cons,List.all_nil,‹Tys _›.h,‹Fc _›.h];repeat (refine b4u ?_)
    apply k _;clear k K
  exact b.h) (b:B):A:=e ⟨b⟩
theorem g2m {A B:Prop} (e:Ho B→A:=by
  intro b;apply b5y;intro K k;simp only [zE,b0x,b0s,b0j,Nat.reduceEqDiff,reduceIte,Nat.reduceLT,implies_true,forall_const,reduceCtorEq,V.ofValue,V.ofScalar,V.un,V.gd,b1c,aop,b6u,List.mem_cons,List.not_mem_nil,or_false,forall_eq_or_imp,forall_eq,List.map_cons,List.map_nil,if_true,if_false,b0w,Value.oneCell',List.all_cons,List.all_nil,Bool.and_self,‹Tys _›.h,‹Fc _›.h];repeat (refine b4u ?_)
  apply k _;clear k K;exact b.h) (b:B):A:=e ⟨b⟩
theorem g2b {A B:Prop} (e:Ho B→A:=by
  intro b;first
  | apply b33 rfl rfl rfl
    · first | rfl | (simp only [zV,b01,Nat.reduceEqDiff,reduceIte];done)
    simp only [zW,b0j,Nat.reduceEqDiff,reduceIte]
  | skip
    apply b5y;intro K k;simp only [zE,zG,b0x,b0s,b0j,Nat.reduceEqDiff,reduceIte,Nat.reduceLT,implies_true,forall_const,reduceCtorEq,V.ofValue,V.ofScalar,V.un,V.gd,b01,V.wrap,b1c,aop,b6u,List.mem_cons,List.not_mem_nil,or_false,forall_eq_or_imp,forall_eq,List.map_cons,List.map_nil,if_true,if_false,b0w,Value.oneCell',List.all_cons,List.all_nil,Bool.and_self,‹Tys _›.h,‹Fc _›.h];repeat (refine b4u ?_)
    apply k _;clear k K
  exact b.h) (b:B):A:=e ⟨b⟩
theorem g2w {A B:Prop} (e:Ho B→A:=by
  intro b;apply b5y;intro K k;simp only [zE,b0x,b0s,b0j,Nat.reduceEqDiff,reduceIte,Nat.reduceLT,implies_true,forall_const,reduceCtorEq,V.ofValue,V.ofScalar,V.un,V.gd,b1c,aop,b6u,List.mem_cons,List.not_mem_nil,or_false,forall_eq_or_imp,forall_eq,List.map_cons,List.map_nil,if_true,if_false,b0w,Value.oneCell',List.all_cons,List.all_nil,Bool.and_self,‹Tys _›.h,‹Fc _›.h];repeat (refine b4u ?_)
  apply k _;clear k K;exact b.h) (b:B):A:=e ⟨b⟩
theorem g1v {A B:Prop} (e:Ho B→A:=by
  intro b;first
  | apply b33 rfl rfl rfl
    · first | rfl | (simp only [zV,b01,Nat.reduceEqDiff,reduceIte];done)
    simp only [zW,b0j,Nat.reduceEqDiff,reduceIte]
  | skip
    apply b5y;intro K k;simp only [zE,zG,b0x,b0s,b0j,Nat.reduceEqDiff,reduceIte,Nat.reduceLT,implies_true,forall_const,reduceCtorEq,V.ofValue,V.ofScalar,V.un,V.gd,b01,V.wrap,b1c,aop,b6u,List.mem_cons,List.not_mem_nil,or_false,forall_eq_or_imp,forall_eq,List.map_cons,List.map_nil,if_true,if_false,b0w,Value.oneCell',List.all_cons,List.all_nil,Bool.and_self,‹Tys _›.h,‹Fc _›.h];repeat (refine b4u ?_)
    apply k _;clear k K
  exact b.h) (b:B):A:=e ⟨b⟩
theorem c74 {A B:Prop} (e:Ho B→A:=by
  intro b;apply b5y;intro K k;simp only [zE,zP,b0x,b0s,b0j,Nat.reduceEqDiff,reduceIte,Nat.reduceLT,implies_true,forall_const,reduceCtorEq,V.ofValue,V.ofScalar,V.un,V.gd,b1c,aop,d5a,b0w,Value.oneCell',List.all_cons,List.all_nil,Bool.and_self,‹Tys _›.h,‹Fc _›.h];repeat (refine b4u ?_)
  apply k _;clear k K;exact b.h) (b:B):A:=e ⟨b⟩
theorem f2h {A B:Prop} (e:Ho B→A:=by
  intro b;first
  | apply b33 rfl rfl rfl
    · first | rfl | (simp only [zV,b01,Nat.reduceEqDiff,reduceIte];done)
    simp only [zW,b0j,Nat.reduceEqDiff,reduceIte]
  | skip
    apply b5y;intro K k;simp only [zE,zP,zG,b0x,b0s,b0j,Nat.reduceEqDiff,reduceIte,Nat.reduceLT,implies_true,forall_const,reduceCtorEq,V.ofValue,V.ofScalar,V.un,V.gd,b01,V.wrap,b1c,aop,d5a,b0w,Value.oneCell',List.all_cons,List.all_nil,Bool.and_self,‹Tys _›.h,‹Fc _›.h];repeat (refine b4u ?_)
    apply k _;clear k K
  exact b.h) (b:B):A:=e ⟨b⟩
theorem f8j {A B:Prop} (e:Ho B→A:=by
  intro b;apply b5y;intro K k;simp only [zE,zL,zN,b0x,b0s,b0j,Nat.reduceEqDiff,reduceIte,Nat.reduceLT,implies_true,forall_const,reduceCtorEq,V.ofValue,V.ofScalar,V.un,V.gd,b1c,aop,List.set_cons_zero,List.set_cons_succ,b82,forall_eq',c09,b9n,Option.map_none,Option.isNone_none,b1k,Blk.row,TypeDesc.slice.injEq,List.forall_mem_map,List.length_map,Go.Vm.V.cells,Int.toNat_natCast,Int.reduceToNat,←List.map_take,←List.map_drop,List.take_length,Nat.reduceAdd,Nat.reduceLeDiff,Nat.reduceMul,b0w,Value.oneCell',List.all_cons,List.all_nil,Bool.and_self,‹Tys _›.h,‹Fc _›.h];repeat (refine b4u ?_)
  apply k _;clear k K;exact b.h) (b:B):A:=e ⟨b⟩
theorem f9z {A B:Prop} (e:Ho B→A:=by
  intro b;first
  | apply b33 rfl rfl rfl
    · first | rfl | (simp only [zV,b01,Nat.reduceEqDiff,reduceIte];done)
    simp only [zW,b0j,Nat.reduceEqDiff,reduceIte]
  | skip
    apply b5y;intro K k;simp only [zE,zL,zN,b0x,b0s,b0j,Nat.reduceEqDiff,reduceIte,Nat.reduceLT,implies_true,forall_const,reduceCtorEq,V.ofValue,V.ofScalar,V.un,V.gd,b01,V.wrap,b1c,aop,List.set_cons_zero,List.set_cons_succ,b82,forall_eq',c09,b9n,Option.map_none,Option.isNone_none,b1k,Blk.row,TypeDesc.slice.injEq,List.forall_mem_map,List.length_map,Go.Vm.V.cells,Int.toNat_natCast,Int.reduceToNat,←List.map_take,←List.map_drop,List.take_length,Nat.reduceAdd,Nat.reduceLeDiff,Nat.reduceMul,b0w,Value.oneCell',List.all_cons,List.all_nil,Bool.and_self,‹Tys _›.h,‹Fc _›.h];repeat (refine b4u ?_)
    apply k _;clear k K
  exact b.h) (b:B):A:=e ⟨b⟩
theorem b55 {A B:Prop} (e:Ho B→A:=by
  intro b;apply b5y;intro K k;simp only [zE,zS,zJ,zL,zO,zN,b0x,b0s,b0j,Nat.reduceEqDiff,reduceIte,Nat.reduceLT,implies_true,forall_const,reduceCtorEq,V.ofValue,V.ofScalar,V.un,V.gd,b1c,aop,b7r,b2e,V.isVal,V.cells,b4h,b2m,V.noSl,V.noRef,gt_iff_lt,Nat.reduceAdd,Nat.reduceLeDiff,Nat.reduceMul,b9k,b1v,b2x,b1k,Blk.row,b4d,Nat.reduceBEq,c25,b0w,Value.oneCell',‹Tys _›.h,‹Fc _›.h];repeat (refine b4u ?_)
  apply k _;clear k K;exact b.h) (b:B):A:=e ⟨b⟩
theorem f9v {A B:Prop} (e:Ho B→A:=by
  intro b;first
  | apply b33 rfl rfl rfl
    · first | rfl | (simp only [zV,b01,Nat.reduceEqDiff,reduceIte];done)
    simp only [zW,b0j,Nat.reduceEqDiff,reduceIte]
  | skip
    apply b5y;intro K k;simp only [zE,zS,zJ,zL,zO,zN,b0x,b0s,b0j,Nat.reduceEqDiff,reduceIte,Nat.reduceLT,implies_true,forall_const,reduceCtorEq,V.ofValue,V.ofScalar,V.un,V.gd,b01,V.wrap,b1c,aop,b7r,b2e,V.isVal,V.cells,b4h,b2m,V.noSl,V.noRef,gt_iff_lt,Nat.reduceAdd,Nat.reduceLeDiff,Nat.reduceMul,b9k,b1v,b2x,b1k,Blk.row,b4d,Nat.reduceBEq,c25,b0w,Value.oneCell',‹Tys _›.h,‹Fc _›.h];repeat (refine b4u ?_)
    apply k _;clear k K
  exact b.h) (b:B):A:=e ⟨b⟩
theorem zU {A B:Prop} (e:Ho B→A:=by
  intro b;apply b5y;intro K k;simp only [zE,zL,zN,b0x,b0s,b0j,Nat.reduceEqDiff,reduceIte,Nat.reduceLT,implies_true,forall_const,reduceCtorEq,V.ofValue,V.ofScalar,V.un,V.gd,b1c,aop,aUn,b4f,Nat.reduceAdd,Nat.reduceLeDiff,Nat.reduceMul,b8t,Int.toNat_natCast,Int.reduceToNat,b7b,b0w,Value.oneCell',List.all_cons,List.all_nil,Bool.and_self,‹Tys _›.h,‹Fc _›.h];repeat (refine b4u ?_)
  apply k _;clear k K;exact b.h) (b:B):A:=e ⟨b⟩
theorem zgU {A B:Prop} (e:Ho B→A:=by
  intro b;first
  | apply b33 rfl rfl rfl
    · first | rfl | (simp only [zV,b01,Nat.reduceEqDiff,reduceIte];done)
    simp only [zW,b0j,Nat.reduceEqDiff,reduceIte]
  | skip
    apply b5y;intro K k;simp only [zE,zL,zN,b0x,b0s,b0j,Nat.reduceEqDiff,reduceIte,Nat.reduceLT,implies_true,forall_const,reduceCtorEq,V.ofValue,V.ofScalar,V.un,V.gd,b01,V.wrap,b1c,aop,aUn,b4f,Nat.reduceAdd,Nat.reduceLeDiff,Nat.reduceMul,b8t,Int.toNat_natCast,Int.reduceToNat,b7b,b0w,Value.oneCell',List.all_cons,List.all_nil,Bool.and_self,‹Tys _›.h,‹Fc _›.h];repeat (refine b4u ?_)
    apply k _;clear k K
  exact b.h) (b:B):A:=e ⟨b⟩
theorem g1o {A B:Prop} (e:Ho B→A:=by
  intro b;apply b5y;intro K k;simp only [zE,b0x,b0s,b0j,Nat.reduceEqDiff,reduceIte,Nat.reduceLT,implies_true,forall_const,reduceCtorEq,V.ofValue,V.ofScalar,V.un,V.gd,b1c,aop,d3u,c2z,or_true,true_or,or_false,false_or,EK.fitsL,EK.fits,b42,b7s,g12,TypeDesc.slice.injEq,g5o,f9b,b0w,Value.oneCell',List.all_cons,List.all_nil,Bool.and_self,‹Tys _›.h,‹Fc _›.h];repeat (refine b4u ?_)
  intro nb hnb;apply k _;clear k K;revert nb hnb;exact b.h) (b:B):A:=e ⟨b⟩
theorem zk {A B:Prop} (e:Ho B→A:=by
  intro b;simp only [b0r,b0k,b0i,b0f,b0n,Nat.reduceEqDiff,reduceIte];exact b.h) (b:B):A:=e ⟨b⟩
theorem zCl {A B:Prop} (e:Ho B→A:=by
  intro b;simp only [zE,zL,zO,zN,b0x,b0s,b0j,Nat.reduceEqDiff,reduceIte,Nat.reduceLT,implies_true,forall_const,reduceCtorEq,V.ofValue,V.ofScalar,V.un,V.gd,b9i,b1k,Blk.row,c06,Go.Vm.part,V.cells,V.noSl,V.noRef,Nat.reduceAdd,Nat.reduceLeDiff,Nat.reduceMul,‹Tys _›.h];exact b.h) (b:B):A:=e ⟨b⟩
theorem zf {A B:Prop} (e:Ho B→A:=by
  intro b;simp only [d0r,b6n,c3m,b0f,b0n,Nat.reduceEqDiff,reduceIte,List.map_cons,List.map_nil];exact b.h) (b:B):A:=e ⟨b⟩
theorem b0c {m:Nat} {s:St} {c:Operand} {P L Q x y} (b:Bool) (hc:s.ev c=.bool b) {p q:Prop} (h1:p→awp P L m x Q s) (h2:q→awp P L m y Q s)
    (hp:b=true→p:=by first | (intro h;simp only [zC,reduceCtorEq] at h;exact h) | exact fun h=>h) (hq:b=false→q:=by first | (intro h;simp only [zC,reduceCtorEq] at h;exact h) | exact fun h=>h):awp P L m (.cond c x y) Q s:=
  b2a b hc (fun h=>h1 (hp h)) (fun h=>h2 (hq h))
section
variable {m:Nat} {s s':St} {B:Prop} (ks ids:List Nat) (hn:ids.Nodup:=by decide) (hm:∀j,j < m→ids[j]? =some j:=by simp)
include ks ids hn hm
theorem b0d
    (he:∀p∈(s.keep ks).env,p.2.only (fun id=>(idx ids id).isSome)=true:=by simp [b0r,b0k,b0i,b0f,V.only,V.onlyL,idx]<;>(first | rfl | decide))
    (hb:∀id∈ids,∀bk,s.O[id]? =some bk→bk.kindIs (fun k=>k.nm)=true:=by simp [Blk.kindIs,b02,b1m])
    (e:Ho B→(s.keep ks).comp ids=s':=by
      intro b;simp only [b0r,b0k,b0i,b0f,b0n,Nat.reduceEqDiff,reduceIte,St.comp,List.map_cons,List.map_nil,V.ren,V.renL,idx,List.getD_cons_zero,List.getD_cons_succ,Nat.reduceBEq,cond_true,cond_false,Option.map_some,Option.getD_some,Nat.reduceAdd,c95,decide_true,decide_false];exact b.h) (b:B):b44 m s s':=b6c ks ids hn hm he hb (e ⟨b⟩)
theorem b4e
    (he:∀p∈(s.keep ks).env,p.2.only (fun id=>(idx ids id).isSome)=true:=by simp [b0r,b0k,b0i,b0f,V.only,V.onlyL,idx,‹Caps _›.cn]<;>(first | rfl | decide))
    (hb:∀id∈ids,∀bk,s.O[id]? =some bk→bk.kindIs (fun k=>k.nm)=true:=by simp [Blk.kindIs,b02,b1m])
    (e:Ho B→(s.keep ks).comp ids=s':=by
      intro b;simp only [b0r,b0k,b0i,b0f,b0n,Nat.reduceEqDiff,reduceIte,St.comp,List.map_cons,List.map_nil,V.ren,V.renL,idx,List.getD_cons_zero,List.getD_cons_succ,Nat.reduceBEq,cond_true,cond_false,Option.map_some,Option.getD_some,Nat.reduceAdd,c95,decide_true,decide_false,‹Caps _›.cr];exact b.h) (b:B):b44 m s s':=b6c ks ids hn hm he hb (e ⟨b⟩)
theorem b1a
    (he:∀p∈(s.keep ks).env,p.2.only (fun id=>(idx ids id).isSome)=true:=by simp [b0r,b0k,b0i,b0f,V.only,V.onlyL,idx]<;>(first | rfl | decide))
    (hb:∀id∈ids,∀bk,s.O[id]? =some bk→bk.onlyM (fun id=>(idx ids id).isSome)=true:=by simp [Blk.onlyM,b1h,b2d,b1i,b75,b1r,b8b,b12,b9s,V.only,V.onlyL,idx]<;>(first | rfl | decide))
    (e:Ho B→(s.keep ks).compM ids=s':=by
      intro b;simp only [b0r,b0k,b0i,b0f,b0n,Nat.reduceEqDiff,reduceIte,St.compM,Blk.renM,b1h,b2d,b1i,b75,b1r,b8b,b12,b9s,List.map_cons,List.map_nil,V.ren,V.renL,idx,List.getD_cons_zero,List.getD_cons_succ,Nat.reduceBEq,cond_true,cond_false,Option.map_some,Option.getD_some,Nat.reduceAdd,c95,decide_true,decide_false];exact b.h) (b:B):b44 m s s':=c2v ks ids hn hm he hb (e ⟨b⟩)
end
theorem d3h {m:Nat} {s:St} (ks ids:List Nat) (hn:ids.Nodup:=by decide) (hm:∀j,j < m→ids[j]? =some j:=by simp)
    (he:∀p∈(s.keep ks).env,p.2.only (fun id=>(idx ids id).isSome)=true:=by simp [b0r,b0k,b0i,b0f,V.only,V.onlyL,idx]<;>(first | rfl | decide))
    (hb:∀id∈ids,∀bk,s.O[id]? =some bk→bk.onlyM (fun id=>(idx ids id).isSome)=true:=by simp [Blk.onlyM,b1h,b2d,b1i,b75,b1r,b8b,b12,b9s,V.only,V.onlyL,idx]<;>(first | rfl | decide)):b44 m s ((s.keep ks).compM ids):=c2v ks ids hn hm he hb rfl
theorem b0t {m:Nat} {s s':St} (ks ids:List Nat) (hn:ids.Nodup:=by decide) (hm:∀j,j < m→ids[j]? =some j:=by simp)
    (he:∀p∈(s.keep ks).env,p.2.only (fun id=>(idx ids id).isSome)=true:=by simp [b0r,b0k,b0i,b0f,V.only,V.onlyL,idx]<;>(first | rfl | decide))
    (hb:∀id∈ids,∀bk,s.O[id]? =some bk→bk.onlyM (fun id=>(idx ids id).isSome)=true:=by simp [Blk.onlyM,b1h,b2d,b1i,b75,b1r,b8b,b12,b9s,V.only,V.onlyL,idx]<;>(first | rfl | decide))
    (e:(s.keep ks).compM ids=s':=by first | (simp only [b0r,b0k,b0i,b0f,b0n,Nat.reduceEqDiff,reduceIte,St.compM,Blk.renM,b1h,b2d,b1i,b75,b1r,b8b,b12,b9s,List.map_cons,List.map_nil,V.ren,V.renL,idx,List.getD_cons_zero,List.getD_cons_succ,Nat.reduceBEq,cond_true,cond_false,Option.map_some,Option.getD_some,Nat.reduceAdd,c95,decide_true,decide_false];done) | rfl):b44 m s s':=c2v ks ids hn hm he hb e
theorem zkm {A B:Prop} (e:Ho B→A:=by
  intro b;simp only [b0r,b0k,b0i,b0f,b0n,Nat.reduceEqDiff,reduceIte,St.compM,Blk.renM,b1h,b2d,b1i,b75,b1r,b8b,b12,b9s,List.map_cons,List.map_nil,V.ren,V.renL,idx,List.getD_cons_zero,List.getD_cons_succ,Nat.reduceBEq,cond_true,cond_false,Option.map_some,Option.getD_some,Nat.reduceAdd,c95,decide_true,decide_false];exact b.h) (b:B):A:=e ⟨b⟩
theorem zc {C A B:Prop} (con:C) (e:C→Ho B→A:=by
  intro con b;apply b5y;intro K k;simp only [zE,zM,b0x,b0s,b0j,Nat.reduceEqDiff,reduceIte,Nat.reduceLT,implies_true,forall_const,reduceCtorEq,V.ofValue,V.ofScalar,V.un,V.gd,b1c,b3x,b4q,‹Tys _›.h,‹Fc _›.h];repeat (refine d43 ?_)
  refine b7h con (by first | rfl | (simp only [b1u,b2y,b1o,b1d,b2i,Option.map_some,idx,b1k,List.getElem?_cons_zero,List.getElem?_cons_succ,Option.bind_some,Blk.row,b02,b1m,b10,b1x,b1y,b1z,cond_true,List.map_take];done) | (simp [b1u,b2y,b1o,b1d,b2i,idx,b1k,Blk.row,b02,b1m,b10,b1x,b1y,b1z,Nat.beq_refl];done)) (by first | exact .inl ⟨rfl,by simp [Blk.kindIs,b4c,b7i]⟩ | exact .inr (by simp [V.cold])) ?_;apply k _;clear k K;simp only [zY,zW,b0j,Nat.reduceEqDiff,reduceIte,V.ren,V.renL,rho,Nat.reduceAdd];exact b.h) (b:B):A:=e con ⟨b⟩
theorem zcl {C A B:Prop} (con:C) (e:C→Ho B→A:=by
  intro con b;apply b5y;intro K k;simp only [zE,zM,b0x,b0s,b0j,Nat.reduceEqDiff,reduceIte,Nat.reduceLT,implies_true,forall_const,reduceCtorEq,V.ofValue,V.ofScalar,V.un,V.gd,b1c,b3x,b4q,‹Tys _›.h,‹Fc _›.h];repeat (refine d43 ?_)
  refine c2n _ con (by first | rfl | (simp only [b1u,b2y,b1o,b1d,b2i,Option.map_some,idx,b1k,List.getElem?_cons_zero,List.getElem?_cons_succ,Option.bind_some,Blk.row,b02,b1m,b10,b1x,b1y,b1z,cond_true,List.map_take];done) | (simp [b1u,b2y,b1o,b1d,b2i,idx,b1k,Blk.row,b02,b1m,b10,b1x,b1y,b1z,Nat.beq_refl];done)) (by rfl) ⟨by simp [Blk.kindIs,b02,b1m],by simp⟩ (by first | exact .inl rfl | exact .inr (by simp [Blk.kindIs])) ⟨rfl,by simp [Blk.kindIs,b4c,b7i]⟩ ?_;apply k _;clear k K;simp only [zY,zW,b0j,Nat.reduceEqDiff,reduceIte,c0j,d2m,V.ren,V.renL,List.set_cons_zero,List.set_cons_succ,Nat.reduceAdd];exact b.h) (b:B):A:=e con ⟨b⟩
theorem zcc {C A B:Prop} (con:C) (e:C→Ho B→A:=by
  intro con b;apply b5y;intro K k;simp only [zE,zM,b0x,b0s,b0j,Nat.reduceEqDiff,reduceIte,Nat.reduceLT,implies_true,forall_const,reduceCtorEq,V.ofValue,V.ofScalar,V.un,V.gd,b1c,b3x,b4q,‹Tys _›.h,‹Fc _›.h];repeat (refine d43 ?_)
  refine b7h con (by first | rfl | (simp only [b1u,b2y,b1o,b1d,b2i,Option.map_some,idx,b1k,List.getElem?_cons_zero,List.getElem?_cons_succ,Option.bind_some,Blk.row,b02,b1m,b10,b1x,b1y,b1z,cond_true,List.map_take,‹Caps _›.cc,‹Caps _›.ca];done) | (simp [b1u,b2y,b1o,b1d,b2i,idx,b1k,Blk.row,b02,b1m,b10,b1x,b1y,b1z,Nat.beq_refl,‹Caps _›.cc,‹Caps _›.ca];done)) (by first | exact .inl ⟨rfl,by simp [Blk.kindIs,b4c,b7i]⟩ | exact .inr (by simp [V.cold])) ?_;apply k _;clear k K;simp only [zY,zW,b0j,Nat.reduceEqDiff,reduceIte,V.ren,V.renL,rho,Nat.reduceAdd];exact b.h) (b:B):A:=e con ⟨b⟩
theorem g2j {C A B:Prop} (con:C) (e:C→Ho B→A:=by
  intro con b;apply b5y;intro K k;simp only [zE,zM,b0x,b0s,b0j,Nat.reduceEqDiff,reduceIte,Nat.reduceLT,implies_true,forall_const,reduceCtorEq,V.ofValue,V.ofScalar,V.un,V.gd,b1c,b3x,b4q,‹Tys _›.h,‹Fc _›.h];repeat (refine d43 ?_)
  refine c2n _ con (by first | rfl | (simp only [b1u,b2y,b1o,b1d,b2i,Option.map_some,idx,b1k,List.getElem?_cons_zero,List.getElem?_cons_succ,Option.bind_some,Blk.row,b02,b1m,b10,b1x,b1y,b1z,cond_true,List.map_take,‹Caps _›.cc,‹Caps _›.ca];done) | (simp [b1u,b2y,b1o,b1d,b2i,idx,b1k,Blk.row,b02,b1m,b10,b1x,b1y,b1z,Nat.beq_refl,‹Caps _›.cc,‹Caps _›.ca];done)) (by rfl) ⟨by simp [Blk.kindIs,b02,b1m],by simp⟩ (by first | exact .inl rfl | exact .inr (by simp [Blk.kindIs])) ⟨rfl,by simp [Blk.kindIs,b4c,b7i]⟩ ?_;apply k _;clear k K;simp only [zY,zW,b0j,Nat.reduceEqDiff,reduceIte,c0j,d2m,V.ren,V.renL,List.set_cons_zero,List.set_cons_succ,Nat.reduceAdd];exact b.h) (b:B):A:=e con ⟨b⟩
theorem g2o {C A B:Prop} (con:C) (e:C→Ho B→A:=by
  intro con b;apply b5y;intro K k;simp only [zE,zM,b0x,b0s,b0j,Nat.reduceEqDiff,reduceIte,Nat.reduceLT,implies_true,forall_const,reduceCtorEq,V.ofValue,V.ofScalar,V.un,V.gd,b1c,b3x,b4q,‹Tys _›.h,‹Fc _›.h];repeat (refine d43 ?_)
  refine d74 _ _ _ con (by first | rfl | (simp only [b1u,b2y,b1o,b1d,b2i,Option.map_some,idx,b1k,List.getElem?_cons_zero,List.getElem?_cons_succ,Option.bind_some,Blk.row,b02,b1m,b10,b1x,b1y,b1z,cond_true,List.map_take];done) | (simp [b1u,b2y,b1o,b1d,b2i,idx,b1k,Blk.row,b02,b1m,b10,b1x,b1y,b1z,Nat.beq_refl];done)) (by rfl) (by rfl) (by rfl) (by decide) (by simp [Blk.kindIs,b02,b1m]) (by first | exact .inl rfl | exact .inr (by simp [Blk.kindIs])) ⟨rfl,by simp [Blk.kindIs,b4c,b7i]⟩ ?_;apply k _;clear k K;simp only [zY,zW,b0j,Nat.reduceEqDiff,reduceIte,g06,g0p,g1i,g1j,V.ren,V.renL,List.set_cons_zero,List.set_cons_succ,Nat.reduceAdd,Nat.add_zero];exact b.h) (b:B):A:=e con ⟨b⟩
section
variable {P:Program} {s:St} {f:FuncId} {args args':List V} {R:V→List Blk→Prop} {g:V→St→St} {K X:St→Prop} (k:∀s,X s→K s)
include k
theorem c9o (hc:b76 P f args' [] R)
    (h:∀r O',R r O'→((r.clean=true∧∀b∈O',b.kindIs (fun k=>k != .shal && k.nm)=true)∨(∀x∈args,x.coldIn []=true))∧X (g (r.ren (rho [] s.O.length)) {s with O:=s.O++O'})) (ht:b1u s [] args=some args':=by first | rfl | (simp only [b1u,b2y,b1o,b1d,b2i,Option.map_some,idx,b1k,List.getElem?_cons_zero,List.getElem?_cons_succ,Option.bind_some,Blk.row,b02,b1m,b10,b1x,b1y,b1z,cond_true,List.map_take];done) | (simp [b1u,b2y,b1o,b1d,b2i,idx,b1k,Blk.row,b02,b1m,b10,b1x,b1y,b1z,Nat.beq_refl];done) | (simp only [b1u,b2y,b1o,b1d,b2i,Option.map_some,idx,b1k,List.getElem?_cons_zero,List.getElem?_cons_succ,Option.bind_some,Blk.row,b02,b1m,b10,b1x,b1y,b1z,cond_true,cond_false,Option.map_none,Nat.reduceAdd,List.map_take,Nat.beq_refl,‹Fc _›.h];done)):b9g P s f [] args (fun v s'=>K (g v s')):=
  d96 hc ht fun r O' q=>⟨(h r O' q).1,k _ (h r O' q).2⟩
theorem c16 {bk:Blk} {id:Nat} (hc:b76 P f args' [bk] R)
    (h:∀r O',R r O'→∃bk' O1,O'=bk'::O1∧((r.clean=true∧∀b∈O',b.kindIs (fun k=>k != .shal && k.nm)=true)∨(∀x∈args,x.coldIn [id]=true))∧X (g (r.ren (rho [id] s.O.length)) {s with O:=s.O.set id bk'++O1})) (ht:b1u s [id] args=some args':=by first | rfl | (simp only [b1u,b2y,b1o,b1d,b2i,Option.map_some,idx,b1k,List.getElem?_cons_zero,List.getElem?_cons_succ,Option.bind_some,Blk.row,b02,b1m,b10,b1x,b1y,b1z,cond_true,List.map_take];done) | (simp [b1u,b2y,b1o,b1d,b2i,idx,b1k,Blk.row,b02,b1m,b10,b1x,b1y,b1z,Nat.beq_refl];done) | (simp only [b1u,b2y,b1o,b1d,b2i,Option.map_some,idx,b1k,List.getElem?_cons_zero,List.getElem?_cons_succ,Option.bind_some,Blk.row,b02,b1m,b10,b1x,b1y,b1z,cond_true,cond_false,Option.map_none,Nat.reduceAdd,List.map_take,Nat.beq_refl,‹Fc _›.h];done)) (hO:s.O[id]? =some bk:=by first | rfl | assumption) (hbk:bk.kindIs (fun k=>k.nm)=true∧bk≠.dead:=by exact ⟨by simp [Blk.kindIs,b02,b1m],by simp⟩)
    (hv:s.vw=false∨bk.kindIs (fun k=>k == .flat)=true:=by first | exact .inl rfl | exact .inr (by simp [Blk.kindIs])):b9g P s f [id] args (fun v s'=>K (g v s')):=
  d0j id hc ht hO hbk hv fun r O' q=>(h r O' q).imp fun _ h=>h.imp fun _ h=>⟨h.1,h.2.1,k _ h.2.2⟩
theorem c4z {bk bk2:Blk} {i j:Nat} (hc:b76 P f args' [bk,bk2] R)
    (h:∀r O',R r O'→∃b1 b2 O1,O'=b1::b2::O1∧((r.clean=true∧∀b∈O',b.kindIs (fun k=>k != .shal && k.nm)=true)∨(∀x∈args,x.coldIn [i,j]=true))∧X (g (r.ren (rho [i,j] s.O.length)) {s with O:=(s.O.set i b1).set j b2++O1})) (ht:b1u s [i,j] args=some args':=by first | rfl | (simp only [b1u,b2y,b1o,b1d,b2i,Option.map_some,idx,b1k,List.getElem?_cons_zero,List.getElem?_cons_succ,Option.bind_some,Blk.row,b02,b1m,b10,b1x,b1y,b1z,cond_true,List.map_take];done) | (simp [b1u,b2y,b1o,b1d,b2i,idx,b1k,Blk.row,b02,b1m,b10,b1x,b1y,b1z,Nat.beq_refl];done) | (simp only [b1u,b2y,b1o,b1d,b2i,Option.map_some,idx,b1k,List.getElem?_cons_zero,List.getElem?_cons_succ,Option.bind_some,Blk.row,b02,b1m,b10,b1x,b1y,b1z,cond_true,cond_false,Option.map_none,Nat.reduceAdd,List.map_take,Nat.beq_refl,‹Fc _›.h];done)) (hO:s.O[i]? =some bk:=by first | rfl | assumption) (hO2:s.O[j]? =some bk2:=by first | rfl | assumption) (hn:i≠j:=by first | decide | assumption | exact Ne.symm (by assumption)) (hbk:(bk.kindIs (fun k=>k.nm)=true∧bk≠.dead)∧(bk2.kindIs (fun k=>k.nm)=true∧bk2≠.dead):=by exact ⟨⟨by simp [Blk.kindIs,b02,b1m],by simp⟩,⟨by simp [Blk.kindIs,b02,b1m],by simp⟩⟩)
    (hv:s.vw=false:=by rfl):b9g P s f [i,j] args (fun v s'=>K (g v s')):=
  d4h i j hc ht hO hO2 hn hbk hv fun r O' q=>(h r O' q).imp fun _ h=>h.imp fun _ h=>h.imp fun _ h=>⟨h.1,h.2.1,k _ h.2.2⟩
end
theorem zxn {C A B:Prop} (con:C) (e:C→Ho B→A:=by
  intro con b;apply b5y;intro _ k;simp only [zE,zM,b0x,b0s,b0j,Nat.reduceEqDiff,reduceIte,Nat.reduceLT,implies_true,forall_const,reduceCtorEq,V.ofValue,V.ofScalar,V.un,V.gd,b1c,b3x,b4q,‹Tys _›.h,‹Fc _›.h];repeat (refine d43 ?_)
  exact c9o k con b.h) (b:B):A:=e con ⟨b⟩
theorem g0c {C A B:Prop} (con:C) (e:C→Ho B→A:=by
  intro con b;intro _ k;simp only [zE,zM,b0x,b0s,b0j,Nat.reduceEqDiff,reduceIte,Nat.reduceLT,implies_true,forall_const,reduceCtorEq,V.ofValue,V.ofScalar,V.un,V.gd,b1c,b3x,b4q,‹Tys _›.h,‹Fc _›.h];repeat (refine d43 ?_)
  exact c9o k con b.h) (b:B):A:=e con ⟨b⟩
theorem zxl {C A B:Prop} (con:C) (e:C→Ho B→A:=by
  intro con b;apply b5y;intro _ k;simp only [zE,zM,b0x,b0s,b0j,Nat.reduceEqDiff,reduceIte,Nat.reduceLT,implies_true,forall_const,reduceCtorEq,V.ofValue,V.ofScalar,V.un,V.gd,b1c,b3x,b4q,‹Tys _›.h,‹Fc _›.h];repeat (refine d43 ?_)
  exact c16 k con b.h) (b:B):A:=e con ⟨b⟩
theorem d6g {C A B:Prop} (con:C) (e:C→Ho B→A:=by
  intro con b;intro _ k;simp only [zE,zM,b0x,b0s,b0j,Nat.reduceEqDiff,reduceIte,Nat.reduceLT,implies_true,forall_const,reduceCtorEq,V.ofValue,V.ofScalar,V.un,V.gd,b1c,b3x,b4q,‹Tys _›.h,‹Fc _›.h];repeat (refine d43 ?_)
  exact c16 k con b.h) (b:B):A:=e con ⟨b⟩
theorem g0d {rg:Array Oper} {fuel:Nat} {listed:Array Bool} {B C:Prop} {P L K s oi rest} (i:Nat) (con:C) (hi:rg.toList.drop i=oi::rest:=by rfl) (hr:Region.ready .any rg listed=[i]:=by kernel_rfl)
    (e:C→Ho B→(∀K':St→Prop,(∀s,b13 P L rg K fuel (listed.setIfInBounds i true) s→K' s)→b0x P L rg oi s K'):=by
  intro con b;intro K k;simp only [zE,zM,b0x,b0s,b0j,Nat.reduceEqDiff,reduceIte,Nat.reduceLT,implies_true,forall_const,reduceCtorEq,V.ofValue,V.ofScalar,V.un,V.gd,b1c,b3x,b4q,‹Tys _›.h,‹Fc _›.h];repeat (refine d43 ?_)
  exact c16 k con b.h) (b:B):b13 P L rg K (fuel+1) listed s:=b4j i hi hr (e con ⟨b⟩)
theorem zxt {C A B:Prop} (con:C) (e:C→Ho B→A:=by
  intro con b;apply b5y;intro _ k;simp only [zE,zM,b0x,b0s,b0j,Nat.reduceEqDiff,reduceIte,Nat.reduceLT,implies_true,forall_const,reduceCtorEq,V.ofValue,V.ofScalar,V.un,V.gd,b1c,b3x,b4q,‹Tys _›.h,‹Fc _›.h];repeat (refine d43 ?_)
  exact c4z k con b.h) (b:B):A:=e con ⟨b⟩
theorem g1n {C A B:Prop} (con:C) (e:C→Ho B→A:=by
  intro con b;intro _ k;simp only [zE,zM,b0x,b0s,b0j,Nat.reduceEqDiff,reduceIte,Nat.reduceLT,implies_true,forall_const,reduceCtorEq,V.ofValue,V.ofScalar,V.un,V.gd,b1c,b3x,b4q,‹Tys _›.h,‹Fc _›.h];repeat (refine d43 ?_)
  exact c4z k con b.h) (b:B):A:=e con ⟨b⟩
theorem zEn {A B:Prop} (e:Ho B→A:=by
  intro b;refine ⟨by first | exact .inr (qlk.1 rfl) | (refine .inl ⟨rfl,?_⟩;simp [Blk.kindIs,b4c,b7i];done) | (refine .inr ?_;simp [V.coldIn,V.cold,idx];done) | (refine .inr ?_;simp [V.coldIn,V.cold,idx,Nat.beq_refl,‹Fc _›.h];done),?_⟩;simp only [zY,zW,b0j,Nat.reduceEqDiff,reduceIte,c0j,d2m,g3o,f4u,f3u,V.ren,V.renL,List.set_cons_zero,List.set_cons_succ,rho,Nat.reduceAdd,Nat.add_zero,Nat.lt_irrefl,Nat.reduceLT,Nat.reduceSub,Nat.sub_self];exact b.h) (b:B):A:=e ⟨b⟩
theorem zEl {A B:Prop} (e:Ho B→A:=by
  intro b;refine ⟨_,_,rfl,by first | exact .inr (qlk.1 rfl) | (refine .inl ⟨rfl,?_⟩;simp [Blk.kindIs,b4c,b7i];done) | (refine .inr ?_;simp [V.coldIn,V.cold,idx];done) | (refine .inr ?_;simp [V.coldIn,V.cold,idx,Nat.beq_refl,‹Fc _›.h];done),?_⟩;simp only [zY,zW,b0j,Nat.reduceEqDiff,reduceIte,c0j,d2m,g3o,f4u,f3u,V.ren,V.renL,List.set_cons_zero,List.set_cons_succ,rho,Nat.reduceAdd,Nat.add_zero,Nat.lt_irrefl,Nat.reduceLT,Nat.reduceSub,Nat.sub_self];exact b.h) (b:B):A:=e ⟨b⟩
theorem zEt {A B:Prop} (e:Ho B→A:=by
  intro b;refine ⟨_,_,_,rfl,by first | exact .inr (qlk.1 rfl) | (refine .inl ⟨rfl,?_⟩;simp [Blk.kindIs,b4c,b7i];done) | (refine .inr ?_;simp [V.coldIn,V.cold,idx];done) | (refine .inr ?_;simp [V.coldIn,V.cold,idx,Nat.beq_refl,‹Fc _›.h];done),?_⟩;simp only [zY,zW,b0j,Nat.reduceEqDiff,reduceIte,c0j,d2m,g3o,f4u,f3u,V.ren,V.renL,List.set_cons_zero,List.set_cons_succ,rho,Nat.reduceAdd,Nat.add_zero,Nat.lt_irrefl,Nat.reduceLT,Nat.reduceSub,Nat.sub_self];exact b.h) (b:B):A:=e ⟨b⟩
theorem zgc {C A B:Prop} (con:C) (e:C→Ho B→A:=by
  intro con b;first
  | apply b33 rfl rfl rfl
    · first | rfl | (simp only [zV,b01,Nat.reduceEqDiff,reduceIte];done)
    simp only [zW,b0j,Nat.reduceEqDiff,reduceIte]
  | skip
    apply b5y;intro K k;simp only [zE,zG,b0x,b0s,b0j,Nat.reduceEqDiff,reduceIte,Nat.reduceLT,implies_true,forall_const,reduceCtorEq,V.ofValue,V.ofScalar,V.un,V.gd,b01,‹Tys _›.h,‹Fc _›.h];simp only [zM,zW,b1c,b3x,b4q,b0j,Nat.reduceEqDiff,reduceIte,V.ofValue,V.ofScalar,V.un,V.gd,and_true,true_and,implies_true,and_self,decide_eq_true_eq];first | refine Exists.imp (fun r h=>h) (c1f con (by first | rfl | (simp only [b1u,b2y,b1o,b1d,b2i,Option.map_some,idx,b1k,List.getElem?_cons_zero,List.getElem?_cons_succ,Option.bind_some,Blk.row,b02,b1m,b10,b1x,b1y,b1z,cond_true,List.map_take];done) | (simp [b1u,b2y,b1o,b1d,b2i,idx,b1k,Blk.row,b02,b1m,b10,b1x,b1y,b1z,Nat.beq_refl];done)) rfl rfl ?_) | refine Exists.imp (fun r h=>h) (c1k (fun hg=>con) (by first | rfl | (simp only [b1u,b2y,b1o,b1d,b2i,Option.map_some,idx,b1k,List.getElem?_cons_zero,List.getElem?_cons_succ,Option.bind_some,Blk.row,b02,b1m,b10,b1x,b1y,b1z,cond_true,List.map_take];done) | (simp [b1u,b2y,b1o,b1d,b2i,idx,b1k,Blk.row,b02,b1m,b10,b1x,b1y,b1z,Nat.beq_refl];done)) rfl rfl ?_) | refine Exists.imp (fun r h=>h) (c3w (by first | (intros;trivial) | (intros;simp_all;done)) (fun hg=>con) (by first | rfl | (simp only [b1u,b2y,b1o,b1d,b2i,Option.map_some,idx,b1k,List.getElem?_cons_zero,List.getElem?_cons_succ,Option.bind_some,Blk.row,b02,b1m,b10,b1x,b1y,b1z,cond_true,List.map_take];done) | (simp [b1u,b2y,b1o,b1d,b2i,idx,b1k,Blk.row,b02,b1m,b10,b1x,b1y,b1z,Nat.beq_refl];done)) rfl rfl ?_)
    apply k _;clear k K
  exact b.h) (b:B):A:=e con ⟨b⟩
theorem c6u {A B:Prop} (e:Ho B→A:=by
  intro b;intro K k;simp only [zE,zL,zO,zN,b0x,b0s,b0j,Nat.reduceEqDiff,reduceIte,Nat.reduceLT,implies_true,forall_const,reduceCtorEq,V.ofValue,V.ofScalar,V.un,V.gd,b1c,aop,c55,if_true,Nat.zero_mul,Nat.one_mul,Nat.mul_one,V.isVal,V.cells,List.mem_cons,List.not_mem_nil,or_false,forall_eq_or_imp,forall_eq,Nat.reduceAdd,Nat.reduceLeDiff,Nat.reduceMul,b0w,Value.oneCell',List.all_cons,List.all_nil,‹Tys _›.h,‹Fc _›.h];repeat (refine b4u ?_)
  apply k _;clear k K;exact b.h) (b:B):A:=e ⟨b⟩
theorem zsU {A B:Prop} (e:Ho B→A:=by
  intro b;intro K k;simp only [zE,zL,zN,b0x,b0s,b0j,Nat.reduceEqDiff,reduceIte,Nat.reduceLT,implies_true,forall_const,reduceCtorEq,V.ofValue,V.ofScalar,V.un,V.gd,b1c,aop,aUn,b4f,Nat.reduceAdd,Nat.reduceLeDiff,Nat.reduceMul,b8t,Int.toNat_natCast,Int.reduceToNat,b7b,b0w,Value.oneCell',List.all_cons,List.all_nil,Bool.and_self,‹Tys _›.h,‹Fc _›.h];repeat (refine b4u ?_)
  apply k _;clear k K;exact b.h) (b:B):A:=e ⟨b⟩
theorem c3u {A B:Prop} (e:Ho B→A:=by
  intro b;intro K k;simp only [zE,b0x,b0s,b0j,Nat.reduceEqDiff,reduceIte,Nat.reduceLT,implies_true,forall_const,reduceCtorEq,V.ofValue,V.ofScalar,V.un,V.gd,b1c,aop,d3u,c2z,or_true,true_or,or_false,false_or,EK.fitsL,EK.fits,b42,b7s,b0w,Value.oneCell',List.all_cons,List.all_nil,Bool.and_self,‹Tys _›.h,‹Fc _›.h];try simp (disch:=omega) only [c3k]
  repeat (refine b4u ?_)
  apply k _;clear k K;exact b.h) (b:B):A:=e ⟨b⟩
theorem d7w {A B:Prop} (e:Ho B→A:=by
  intro b;intro K k;simp only [zE,zS,zJ,zL,zO,zN,b0x,b0s,b0j,Nat.reduceEqDiff,reduceIte,Nat.reduceLT,implies_true,forall_const,reduceCtorEq,V.ofValue,V.ofScalar,V.un,V.gd,b1c,aop,b7r,b2e,V.isVal,V.cells,b4h,b2m,V.noSl,V.noRef,gt_iff_lt,Nat.reduceAdd,Nat.reduceLeDiff,Nat.reduceMul,b9k,b1v,b2x,b1k,Blk.row,b4d,Nat.reduceBEq,c25,b0w,Value.oneCell',‹Tys _›.h,‹Fc _›.h];repeat (refine b4u ?_)
  apply k _;clear k K;exact b.h) (b:B):A:=e ⟨b⟩
theorem b35 {A B:Prop} (e:Ho B→A:=by
  intro b;intro K k;simp only [zE,zS,zO,zN,b0x,b0s,b0j,Nat.reduceEqDiff,reduceIte,Nat.reduceLT,implies_true,forall_const,reduceCtorEq,V.ofValue,V.ofScalar,V.un,V.gd,b1c,aop,Nat.reduceAdd,Value.oneCell',V.isVal,V.cells,b4h,b2m,V.noSl,V.noRef,List.all_cons,List.all_nil,List.map_cons,List.map_nil,gt_iff_lt,Nat.reduceLeDiff,Nat.reduceMul,b0w,‹Tys _›.h,‹Fc _›.h];repeat (refine b4u ?_)
  apply k _;clear k K;exact b.h) (b:B):A:=e ⟨b⟩
theorem b03 {A B:Prop} (e:Ho B→A:=by
  intro b;intro K k;simp only [zE,zO,zN,b0x,b0s,b0j,Nat.reduceEqDiff,reduceIte,Nat.reduceLT,implies_true,forall_const,reduceCtorEq,V.ofValue,V.ofScalar,V.un,V.gd,b1c,aop,b7z,g08,g0v,g1l,g0q,g04,g03,g1g,g0w,g1f,g07,g4f,f2p,f2z,List.map_cons,List.map_nil,List.all_cons,List.all_nil,V.isVal,V.cells,b3z,b0w,b2m,V.noRef,V.noSl,List.mem_cons,List.not_mem_nil,or_false,forall_eq_or_imp,forall_eq,if_true,Option.isSome_some,List.length_cons,List.length_nil,Nat.reduceAdd,Nat.reduceLeDiff,Nat.reduceMul,Value.oneCell',‹Tys _›.h,‹Fc _›.h];repeat (refine b4u ?_)
  apply k _;clear k K;exact b.h) (b:B):A:=e ⟨b⟩
theorem b2f {A B:Prop} (e:Ho B→A:=by
  intro b;intro K k;simp only [zE,zL,zO,zN,b0x,b0s,b0j,Nat.reduceEqDiff,reduceIte,Nat.reduceLT,implies_true,forall_const,reduceCtorEq,V.ofValue,V.ofScalar,V.un,V.gd,b1c,aop,c2f,beq_self_eq_true,List.nodup_cons,List.mem_singleton,forall_eq',List.size_toArray,List.getD_eq_getElem?_getD,Array.getD_eq_getD_getElem?,Option.getD_some,b62,c7q,c5p,b37,b9k,b1v,b2x,b1k,Blk.row,b4d,V.isSub,V.noSl,Value.cells,Option.toList,List.forall_mem_map,List.length_map,List.all_cons,List.all_nil,List.isEmpty_nil,List.isEmpty_cons,List.not_mem_nil,List.nodup_nil,c1h,c86,c15,c7m,c7n,b8w,c0h,List.mem_cons,or_false,forall_eq_or_imp,forall_eq,List.set_cons_zero,List.set_cons_succ,List.length_append,Go.Vm.V.cells,Nat.reduceAdd,Nat.reduceLeDiff,Nat.reduceMul,b0w,Value.oneCell',‹Tys _›.h,‹Fc _›.h];repeat (refine b4u ?_)
  apply k _;clear k K;exact b.h) (b:B):A:=e ⟨b⟩
theorem b4b {A B:Prop} (e:Ho B→A:=by
  intro b;intro K k;simp only [zE,zL,zN,b0x,b0s,b0j,Nat.reduceEqDiff,reduceIte,Nat.reduceLT,implies_true,forall_const,reduceCtorEq,V.ofValue,V.ofScalar,V.un,V.gd,b1c,aop,List.set_cons_zero,List.set_cons_succ,b82,forall_eq',c09,b9n,Option.map_none,Option.isNone_none,b1k,Blk.row,TypeDesc.slice.injEq,List.forall_mem_map,List.length_map,Go.Vm.V.cells,Int.toNat_natCast,Int.reduceToNat,←List.map_take,←List.map_drop,List.take_length,Nat.reduceAdd,Nat.reduceLeDiff,Nat.reduceMul,b0w,Value.oneCell',List.all_cons,List.all_nil,Bool.and_self,‹Tys _›.h,‹Fc _›.h];repeat (refine b4u ?_)
  apply k _;clear k K;exact b.h) (b:B):A:=e ⟨b⟩
theorem b3y {A B:Prop} (e:Ho B→A:=by
  intro b;intro K k;simp only [zE,zL,zO,zN,b0x,b0s,b0j,Nat.reduceEqDiff,reduceIte,Nat.reduceLT,implies_true,forall_const,reduceCtorEq,V.ofValue,V.ofScalar,V.un,V.gd,b1c,aop,b9i,b1k,Blk.row,c06,Go.Vm.part,V.cells,V.noSl,V.noRef,Nat.reduceAdd,Nat.reduceLeDiff,Nat.reduceMul,b0w,Value.oneCell',List.all_cons,List.all_nil,‹Tys _›.h,‹Fc _›.h];repeat (refine b4u ?_)
  apply k _;clear k K;exact b.h) (b:B):A:=e ⟨b⟩
theorem d66 {A B:Prop} (e:Ho B→A:=by
  intro b;intro K k;simp only [zE,zL,zN,b0x,b0s,b0j,Nat.reduceEqDiff,reduceIte,Nat.reduceLT,implies_true,forall_const,reduceCtorEq,V.ofValue,V.ofScalar,V.un,V.gd,b1c,aop,List.mem_cons,List.not_mem_nil,or_false,forall_eq_or_imp,forall_eq,b3i,b1k,Blk.row,Go.Vm.V.cells,List.forall_mem_map,List.length_map,Int.toNat_natCast,Int.reduceToNat,TypeDesc.slice.injEq,Nat.reduceAdd,Nat.reduceLeDiff,Nat.reduceMul,b0w,Value.oneCell',List.all_cons,List.all_nil,Bool.and_self,‹Tys _›.h,‹Fc _›.h];repeat (refine b4u ?_)
  apply k _;clear k K;exact b.h) (b:B):A:=e ⟨b⟩
theorem g18 {A B:Prop} (e:Ho B→A:=by
  intro b;intro K k;simp only [zE,zL,zN,b0x,b0s,b0j,Nat.reduceEqDiff,reduceIte,Nat.reduceLT,implies_true,forall_const,reduceCtorEq,V.ofValue,V.ofScalar,V.un,V.gd,b1c,aop,List.length_map,f4q,c20,b1k,Blk.row,List.size_toArray,List.getD_eq_getElem?_getD,Array.getD_eq_getD_getElem?,Option.getD_some,Nat.reduceAdd,Nat.reduceLeDiff,Nat.reduceMul,b0w,Value.oneCell',List.all_cons,List.all_nil,Bool.and_self,‹Tys _›.h,‹Fc _›.h];repeat (refine b4u ?_)
  apply k _;clear k K;exact b.h) (b:B):A:=e ⟨b⟩
theorem zsc {C A B:Prop} (con:C) (e:C→Ho B→A:=by
  intro con b K k;simp only [zE,zM,b0x,b0s,b0j,Nat.reduceEqDiff,reduceIte,Nat.reduceLT,implies_true,forall_const,reduceCtorEq,V.ofValue,V.ofScalar,V.un,V.gd,b1c,b3x,b4q,‹Tys _›.h,‹Fc _›.h];repeat (refine d43 ?_)
  refine b7h con (by first | rfl | (simp only [b1u,b2y,b1o,b1d,b2i,Option.map_some,idx,b1k,List.getElem?_cons_zero,List.getElem?_cons_succ,Option.bind_some,Blk.row,b02,b1m,b10,b1x,b1y,b1z,cond_true,List.map_take];done) | (simp [b1u,b2y,b1o,b1d,b2i,idx,b1k,Blk.row,b02,b1m,b10,b1x,b1y,b1z,Nat.beq_refl];done)) (by first | exact .inl ⟨rfl,by simp [Blk.kindIs,b4c,b7i]⟩ | exact .inr (by simp [V.cold])) ?_;apply k _;clear k K;simp only [zY,zW,b0j,Nat.reduceEqDiff,reduceIte,V.ren,V.renL,rho,Nat.reduceAdd];exact b.h) (b:B):A:=e con ⟨b⟩
theorem b07 {O:List Blk} {t:St} (h:Grow O t.O):∀i,(O[i]?).isSome=true→t.row i=(O[i]?).bind Blk.row:=by
  intro i hi;unfold St.row;cases hb:O[i]? with
  | none=>rw [hb] at hi;cases hi
  | some b=>rw [h i b hb]
section
variable {P:Program} {L:c4f} {rg:Array Oper} {K:St→Prop} {fuel:Nat} {listed:Array Bool} {env:List (Nat×V)} {O:List Blk} {vw:Bool} {n m:Nat} {oi:Oper} {rest:List Oper} {v:V} (hK:∀s t,EqS s t→K s→K t) (kp:Bool) (i d:Nat) (b:b13 P L rg K fuel (listed.setIfInBounds i true) ⟨(d,v)::env,O,vw,n,m⟩) (hi:rg.toList.drop i=oi::rest:=by rfl) (hd:oi.dst=some d:=by rfl) (hf:Region.freeG L kp rg listed i=true:=by kernel_rfl) (hr:(Region.ready .any rg listed).contains i=true:=by kernel_rfl)
include hK kp i d b hi hd hf hr
theorem b1s
    (hp:b9j P L rg kp oi d v ⟨env,O,vw,n,m⟩:=by
      intro t hn gx _ _ k';dsimp only at hn;refine .inl ?_;simp (disch:=first | decide | rfl) only [gx,zE,zP,b0x,b0s,Nat.reduceEqDiff,reduceIte,Nat.reduceLT,implies_true,forall_const,reduceCtorEq,V.ofValue,V.ofScalar,V.un,V.gd,b1c,aop,d5a,b0w,Value.oneCell',List.all_cons,List.all_nil,Bool.and_self,‹Tys _›.h,‹Fc _›.h];repeat (refine b4u ?_)
      exact k'):b13 P L rg K (fuel+1) listed ⟨env,O,vw,n,m⟩:=b2l hK kp i d hi hd hf hr ⟨v,hp,b⟩
theorem b4s
    (hp : b9j P L rg kp oi d v ⟨env,O,vw,n,m⟩:=by
      intro t hn gx _ _ k';dsimp only at hn;first
      | refine .inr ⟨?_,_,_,false,rfl,?_,nofun,fun _=>⟨.any,k'⟩⟩
        · simp only [hn,b7x,Nat.reduceLT]
        · first | rfl | (simp (disch:=decide) only [gx,zV,b01,Nat.reduceEqDiff,reduceIte];done)
      | skip
        refine .inl ?_;simp (disch:=first | decide | rfl) only [gx,zE,zP,zG,b0x,b0s,Nat.reduceEqDiff,reduceIte,Nat.reduceLT,implies_true,forall_const,reduceCtorEq,V.ofValue,V.ofScalar,V.un,V.gd,b01,V.wrap,b1c,aop,d5a,b0w,Value.oneCell',List.all_cons,List.all_nil,Bool.and_self,‹Tys _›.h,‹Fc _›.h];repeat (refine b4u ?_)
        exact k'):b13 P L rg K (fuel+1) listed ⟨env,O,vw,n,m⟩:=b2l hK kp i d hi hd hf hr ⟨v,hp,b⟩
theorem b08
    (hp:b9j P L rg kp oi d v ⟨env,O,vw,n,m⟩:=by
      intro t hn gx ho _ k';dsimp only at hn;first | have r0:=b07 (ho rfl) 0 rfl | have r0:=True.intro
      first | have r1:=b07 (ho rfl) 1 rfl | have r1:=True.intro
      first | have r2:=b07 (ho rfl) 2 rfl | have r2:=True.intro
      first | have r3:=b07 (ho rfl) 3 rfl | have r3:=True.intro
      first | have r4:=b07 (ho rfl) 4 rfl | have r4:=True.intro
      first | have r5:=b07 (ho rfl) 5 rfl | have r5:=True.intro
      refine .inl ?_;simp (disch:=first | decide | rfl) only [gx,r0,r1,r2,r3,r4,r5,zE,zL,zO,zN,b0x,b0s,Nat.reduceEqDiff,reduceIte,Nat.reduceLT,implies_true,forall_const,reduceCtorEq,V.ofValue,V.ofScalar,V.un,V.gd,b1c,aop,b9i,b1k,Blk.row,c06,Go.Vm.part,V.cells,V.noSl,V.noRef,Nat.reduceAdd,Nat.reduceLeDiff,Nat.reduceMul,b0w,Value.oneCell',List.all_cons,List.all_nil,‹Tys _›.h,‹Fc _›.h];repeat (refine b4u ?_)
      exact k'):b13 P L rg K (fuel+1) listed ⟨env,O,vw,n,m⟩:=b2l hK kp i d hi hd hf hr ⟨v,hp,b⟩
theorem b00
    (hp:b9j P L rg kp oi d v ⟨env,O,vw,n,m⟩:=by
      intro t hn gx ho _ k';dsimp only at hn;first | have r0:=b07 (ho rfl) 0 rfl | have r0:=True.intro
      first | have r1:=b07 (ho rfl) 1 rfl | have r1:=True.intro
      first | have r2:=b07 (ho rfl) 2 rfl | have r2:=True.intro
      first | have r3:=b07 (ho rfl) 3 rfl | have r3:=True.intro
      first | have r4:=b07 (ho rfl) 4 rfl | have r4:=True.intro
      first | have r5:=b07 (ho rfl) 5 rfl | have r5:=True.intro
      first | have r6:=b07 (ho rfl) 6 rfl | have r6:=True.intro
      first | have r7:=b07 (ho rfl) 7 rfl | have r7:=True.intro
      first | have r8:=b07 (ho rfl) 8 rfl | have r8:=True.intro
      first | have r9:=b07 (ho rfl) 9 rfl | have r9:=True.intro
      first | have r10:=b07 (ho rfl) 10 rfl | have r10:=True.intro
      first | have r11:=b07 (ho rfl) 11 rfl | have r11:=True.intro
      first | have r12:=b07 (ho rfl) 12 rfl | have r12:=True.intro
      first | have r13:=b07 (ho rfl) 13 rfl | have r13:=True.intro
      first | have r14:=b07 (ho rfl) 14 rfl | have r14:=True.intro
      first | have r15:=b07 (ho rfl) 15 rfl | have r15:=True.intro
      first | have r16:=b07 (ho rfl) 16 rfl | have r16:=True.intro
      first | have r17:=b07 (ho rfl) 17 rfl | have r17:=True.intro
      first | have r18:=b07 (ho rfl) 18 rfl | have r18:=True.intro
      first | have r19:=b07 (ho rfl) 19 rfl | have r19:=True.intro
      first | have r20:=b07 (ho rfl) 20 rfl | have r20:=True.intro
      first | have r21:=b07 (ho rfl) 21 rfl | have r21:=True.intro
      first | have r22:=b07 (ho rfl) 22 rfl | have r22:=True.intro
      first | have r23:=b07 (ho rfl) 23 rfl | have r23:=True.intro
      refine .inl ?_;simp (disch:=first | decide | rfl) only [gx,r0,r1,r2,r3,r4,r5,zE,zL,zO,zN,r6,r7,r8,r9,r10,r11,r12,r13,r14,r15,r16,r17,r18,r19,r20,r21,r22,r23,b0x,b0s,Nat.reduceEqDiff,reduceIte,Nat.reduceLT,implies_true,forall_const,reduceCtorEq,V.ofValue,V.ofScalar,V.un,V.gd,b1c,aop,b9i,b1k,Blk.row,c06,Go.Vm.part,V.cells,V.noSl,V.noRef,Nat.reduceAdd,Nat.reduceLeDiff,Nat.reduceMul,b0w,Value.oneCell',List.all_cons,List.all_nil,‹Tys _›.h,‹Fc _›.h];repeat (refine b4u ?_)
      exact k'):b13 P L rg K (fuel+1) listed ⟨env,O,vw,n,m⟩:=b2l hK kp i d hi hd hf hr ⟨v,hp,b⟩
theorem b0p
    (hp : b9j P L rg kp oi d v ⟨env,O,vw,n,m⟩:=by
      intro t hn gx ho _ k';dsimp only at hn;first | have r0:=b07 (ho rfl) 0 rfl | have r0:=True.intro
      first | have r1:=b07 (ho rfl) 1 rfl | have r1:=True.intro
      first | have r2:=b07 (ho rfl) 2 rfl | have r2:=True.intro
      first | have r3:=b07 (ho rfl) 3 rfl | have r3:=True.intro
      first | have r4:=b07 (ho rfl) 4 rfl | have r4:=True.intro
      first | have r5:=b07 (ho rfl) 5 rfl | have r5:=True.intro
      first
      | refine .inr ⟨?_,_,_,false,rfl,?_,nofun,fun _=>⟨.any,k'⟩⟩
        · simp only [hn,b7x,Nat.reduceLT]
        · first | rfl | (simp (disch:=decide) only [gx,zV,b01,Nat.reduceEqDiff,reduceIte];done)
      | skip
        refine .inl ?_;simp (disch:=first | decide | rfl) only [gx,r0,r1,r2,r3,r4,r5,zE,zL,zO,zN,b0x,b0s,Nat.reduceEqDiff,reduceIte,Nat.reduceLT,implies_true,forall_const,reduceCtorEq,V.ofValue,V.ofScalar,V.un,V.gd,b01,V.wrap,b1c,aop,b9i,b1k,Blk.row,c06,Go.Vm.part,V.cells,V.noSl,V.noRef,Nat.reduceAdd,Nat.reduceLeDiff,Nat.reduceMul,b0w,Value.oneCell',List.all_cons,List.all_nil,‹Tys _›.h,‹Fc _›.h];repeat (refine b4u ?_)
        exact k'):b13 P L rg K (fuel+1) listed ⟨env,O,vw,n,m⟩:=b2l hK kp i d hi hd hf hr ⟨v,hp,b⟩
theorem b66
    (hp : b9j P L rg kp oi d v ⟨env,O,vw,n,m⟩:=by
      intro t hn gx ho _ k';dsimp only at hn;first | have r0:=b07 (ho rfl) 0 rfl | have r0:=True.intro
      first | have r1:=b07 (ho rfl) 1 rfl | have r1:=True.intro
      first | have r2:=b07 (ho rfl) 2 rfl | have r2:=True.intro
      first | have r3:=b07 (ho rfl) 3 rfl | have r3:=True.intro
      first | have r4:=b07 (ho rfl) 4 rfl | have r4:=True.intro
      first | have r5:=b07 (ho rfl) 5 rfl | have r5:=True.intro
      first | have r6:=b07 (ho rfl) 6 rfl | have r6:=True.intro
      first | have r7:=b07 (ho rfl) 7 rfl | have r7:=True.intro
      first | have r8:=b07 (ho rfl) 8 rfl | have r8:=True.intro
      first | have r9:=b07 (ho rfl) 9 rfl | have r9:=True.intro
      first | have r10:=b07 (ho rfl) 10 rfl | have r10:=True.intro
      first | have r11:=b07 (ho rfl) 11 rfl | have r11:=True.intro
      first | have r12:=b07 (ho rfl) 12 rfl | have r12:=True.intro
      first | have r13:=b07 (ho rfl) 13 rfl | have r13:=True.intro
      first | have r14:=b07 (ho rfl) 14 rfl | have r14:=True.intro
      first | have r15:=b07 (ho rfl) 15 rfl | have r15:=True.intro
      first | have r16:=b07 (ho rfl) 16 rfl | have r16:=True.intro
      first | have r17:=b07 (ho rfl) 17 rfl | have r17:=True.intro
      first | have r18:=b07 (ho rfl) 18 rfl | have r18:=True.intro
      first | have r19:=b07 (ho rfl) 19 rfl | have r19:=True.intro
      first | have r20:=b07 (ho rfl) 20 rfl | have r20:=True.intro
      first | have r21:=b07 (ho rfl) 21 rfl | have r21:=True.intro
      first | have r22:=b07 (ho rfl) 22 rfl | have r22:=True.intro
      first | have r23:=b07 (ho rfl) 23 rfl | have r23:=True.intro
      first
      | refine .inr ⟨?_,_,_,false,rfl,?_,nofun,fun _=>⟨.any,k'⟩⟩
        · simp only [hn,b7x,Nat.reduceLT]
        · first | rfl | (simp (disch:=decide) only [gx,zV,b01,Nat.reduceEqDiff,reduceIte];done)
      | skip
        refine .inl ?_;simp (disch:=first | decide | rfl) only [gx,r0,r1,r2,r3,r4,r5,zE,zL,zO,zN,r6,r7,r8,r9,r10,r11,r12,r13,r14,r15,r16,r17,r18,r19,r20,r21,r22,r23,b0x,b0s,Nat.reduceEqDiff,reduceIte,Nat.reduceLT,implies_true,forall_const,reduceCtorEq,V.ofValue,V.ofScalar,V.un,V.gd,b01,V.wrap,b1c,aop,b9i,b1k,Blk.row,c06,Go.Vm.part,V.cells,V.noSl,V.noRef,Nat.reduceAdd,Nat.reduceLeDiff,Nat.reduceMul,b0w,Value.oneCell',List.all_cons,List.all_nil,‹Tys _›.h,‹Fc _›.h];repeat (refine b4u ?_)
        exact k'):b13 P L rg K (fuel+1) listed ⟨env,O,vw,n,m⟩:=b2l hK kp i d hi hd hf hr ⟨v,hp,b⟩
theorem b2b
    (hp:b9j P L rg kp oi d v ⟨env,O,vw,n,m⟩:=by
      intro t hn gx _ _ k';dsimp only at hn;refine .inl ?_;simp (disch:=first | decide | rfl) only [gx,zE,b0x,b0s,Nat.reduceEqDiff,reduceIte,Nat.reduceLT,implies_true,forall_const,reduceCtorEq,V.ofValue,V.ofScalar,V.un,V.gd,b1c,aop,d3u,c2z,or_true,true_or,or_false,false_or,EK.fitsL,EK.fits,b42,b7s,b0w,Value.oneCell',List.all_cons,List.all_nil,Bool.and_self,‹Tys _›.h,‹Fc _›.h];repeat (refine b4u ?_)
      exact k'):b13 P L rg K (fuel+1) listed ⟨env,O,vw,n,m⟩:=b2l hK kp i d hi hd hf hr ⟨v,hp,b⟩
theorem b7u
    (hp:b9j P L rg kp oi d v ⟨env,O,vw,n,m⟩:=by
      intro t hn gx _ _ k';dsimp only at hn;refine .inl ?_;simp (disch:=first | decide | rfl) only [gx,zE,b0x,b0s,Nat.reduceEqDiff,reduceIte,Nat.reduceLT,implies_true,forall_const,reduceCtorEq,V.ofValue,V.ofScalar,V.un,V.gd,b1c,aop,d3u,c2z,or_true,true_or,or_false,false_or,EK.fitsL,EK.fits,b42,b7s,b0w,Value.oneCell',List.all_cons,List.all_nil,Bool.and_self,‹Tys _›.h,‹Fc _›.h];try simp (disch:=omega) only [c3k]
      repeat (refine b4u ?_)
      exact k'):b13 P L rg K (fuel+1) listed ⟨env,O,vw,n,m⟩:=b2l hK kp i d hi hd hf hr ⟨v,hp,b⟩
theorem b0y
    (hp : b9j P L rg kp oi d v ⟨env,O,vw,n,m⟩:=by
      intro t hn gx _ _ k';dsimp only at hn;first
      | refine .inr ⟨?_,_,_,false,rfl,?_,nofun,fun _=>⟨.any,k'⟩⟩
        · simp only [hn,b7x,Nat.reduceLT]
        · first | rfl | (simp (disch:=decide) only [gx,zV,b01,Nat.reduceEqDiff,reduceIte];done)
      | skip
        refine .inl ?_;simp (disch:=first | decide | rfl) only [gx,zE,zG,b0x,b0s,Nat.reduceEqDiff,reduceIte,Nat.reduceLT,implies_true,forall_const,reduceCtorEq,V.ofValue,V.ofScalar,V.un,V.gd,b01,V.wrap,b1c,aop,d3u,c2z,or_true,true_or,or_false,false_or,EK.fitsL,EK.fits,b42,b7s,b0w,Value.oneCell',List.all_cons,List.all_nil,Bool.and_self,‹Tys _›.h,‹Fc _›.h];repeat (refine b4u ?_)
        exact k'):b13 P L rg K (fuel+1) listed ⟨env,O,vw,n,m⟩:=b2l hK kp i d hi hd hf hr ⟨v,hp,b⟩
theorem b2s
    (hp : b9j P L rg kp oi d v ⟨env,O,vw,n,m⟩:=by
      intro t hn gx _ _ k';dsimp only at hn;first
      | refine .inr ⟨?_,_,_,false,rfl,?_,nofun,fun _=>⟨.any,k'⟩⟩
        · simp only [hn,b7x,Nat.reduceLT]
        · first | rfl | (simp (disch:=decide) only [gx,zV,b01,Nat.reduceEqDiff,reduceIte];done)
      | skip
        refine .inl ?_;simp (disch:=first | decide | rfl) only [gx,zE,zG,b0x,b0s,Nat.reduceEqDiff,reduceIte,Nat.reduceLT,implies_true,forall_const,reduceCtorEq,V.ofValue,V.ofScalar,V.un,V.gd,b01,V.wrap,b1c,aop,d3u,c2z,or_true,true_or,or_false,false_or,EK.fitsL,EK.fits,b42,b7s,b0w,Value.oneCell',List.all_cons,List.all_nil,Bool.and_self,‹Tys _›.h,‹Fc _›.h];try simp (disch:=omega) only [c3k]
        repeat (refine b4u ?_)
        exact k'):b13 P L rg K (fuel+1) listed ⟨env,O,vw,n,m⟩:=b2l hK kp i d hi hd hf hr ⟨v,hp,b⟩
theorem b0z
    (hp:b9j P L rg kp oi d v ⟨env,O,vw,n,m⟩:=by
      intro t hn gx ho _ k';dsimp only at hn;first | have r0:=b07 (ho rfl) 0 rfl | have r0:=True.intro
      first | have r1:=b07 (ho rfl) 1 rfl | have r1:=True.intro
      first | have r2:=b07 (ho rfl) 2 rfl | have r2:=True.intro
      first | have r3:=b07 (ho rfl) 3 rfl | have r3:=True.intro
      first | have r4:=b07 (ho rfl) 4 rfl | have r4:=True.intro
      first | have r5:=b07 (ho rfl) 5 rfl | have r5:=True.intro
      refine .inl ?_;simp (disch:=first | decide | rfl) only [gx,r0,r1,r2,r3,r4,r5,zE,zL,zN,b0x,b0s,Nat.reduceEqDiff,reduceIte,Nat.reduceLT,implies_true,forall_const,reduceCtorEq,V.ofValue,V.ofScalar,V.un,V.gd,b1c,aop,List.mem_cons,List.not_mem_nil,or_false,forall_eq_or_imp,forall_eq,b3i,b1k,Blk.row,Go.Vm.V.cells,List.forall_mem_map,List.length_map,Int.toNat_natCast,Int.reduceToNat,TypeDesc.slice.injEq,Nat.reduceAdd,Nat.reduceLeDiff,Nat.reduceMul,b0w,Value.oneCell',List.all_cons,List.all_nil,Bool.and_self,‹Tys _›.h,‹Fc _›.h];repeat (refine b4u ?_)
      exact k'):b13 P L rg K (fuel+1) listed ⟨env,O,vw,n,m⟩:=b2l hK kp i d hi hd hf hr ⟨v,hp,b⟩
theorem b0u
    (hp : b9j P L rg kp oi d v ⟨env,O,vw,n,m⟩:=by
      intro t hn gx ho _ k';dsimp only at hn;first | have r0:=b07 (ho rfl) 0 rfl | have r0:=True.intro
      first | have r1:=b07 (ho rfl) 1 rfl | have r1:=True.intro
      first | have r2:=b07 (ho rfl) 2 rfl | have r2:=True.intro
      first | have r3:=b07 (ho rfl) 3 rfl | have r3:=True.intro
      first | have r4:=b07 (ho rfl) 4 rfl | have r4:=True.intro
      first | have r5:=b07 (ho rfl) 5 rfl | have r5:=True.intro
      first
      | refine .inr ⟨?_,_,_,false,rfl,?_,nofun,fun _=>⟨.any,k'⟩⟩
        · simp only [hn,b7x,Nat.reduceLT]
        · first | rfl | (simp (disch:=decide) only [gx,zV,b01,Nat.reduceEqDiff,reduceIte];done)
      | skip
        refine .inl ?_;simp (disch:=first | decide | rfl) only [gx,r0,r1,r2,r3,r4,r5,zE,zL,zN,b0x,b0s,Nat.reduceEqDiff,reduceIte,Nat.reduceLT,implies_true,forall_const,reduceCtorEq,V.ofValue,V.ofScalar,V.un,V.gd,b01,V.wrap,b1c,aop,List.mem_cons,List.not_mem_nil,or_false,forall_eq_or_imp,forall_eq,b3i,b1k,Blk.row,Go.Vm.V.cells,List.forall_mem_map,List.length_map,Int.toNat_natCast,Int.reduceToNat,TypeDesc.slice.injEq,Nat.reduceAdd,Nat.reduceLeDiff,Nat.reduceMul,b0w,Value.oneCell',List.all_cons,List.all_nil,Bool.and_self,‹Tys _›.h,‹Fc _›.h];repeat (refine b4u ?_)
        exact k'):b13 P L rg K (fuel+1) listed ⟨env,O,vw,n,m⟩:=b2l hK kp i d hi hd hf hr ⟨v,hp,b⟩
theorem b6s
    (hp:b9j P L rg kp oi d v ⟨env,O,vw,n,m⟩:=by
      intro t hn gx ho _ k';dsimp only at hn;first | have r0:=b07 (ho rfl) 0 rfl | have r0:=True.intro
      first | have r1:=b07 (ho rfl) 1 rfl | have r1:=True.intro
      first | have r2:=b07 (ho rfl) 2 rfl | have r2:=True.intro
      first | have r3:=b07 (ho rfl) 3 rfl | have r3:=True.intro
      first | have r4:=b07 (ho rfl) 4 rfl | have r4:=True.intro
      first | have r5:=b07 (ho rfl) 5 rfl | have r5:=True.intro
      refine .inl ?_;simp (disch:=first | decide | rfl) only [gx,r0,r1,r2,r3,r4,r5,zE,zL,zN,b0x,b0s,Nat.reduceEqDiff,reduceIte,Nat.reduceLT,implies_true,forall_const,reduceCtorEq,V.ofValue,V.ofScalar,V.un,V.gd,b1c,aop,List.set_cons_zero,List.set_cons_succ,b82,forall_eq',c09,b9n,Option.map_none,Option.isNone_none,b1k,Blk.row,TypeDesc.slice.injEq,List.forall_mem_map,List.length_map,Go.Vm.V.cells,Int.toNat_natCast,Int.reduceToNat,←List.map_take,←List.map_drop,List.take_length,Nat.reduceAdd,Nat.reduceLeDiff,Nat.reduceMul,b0w,Value.oneCell',List.all_cons,List.all_nil,Bool.and_self,‹Tys _›.h,‹Fc _›.h];repeat (refine b4u ?_)
      exact k'):b13 P L rg K (fuel+1) listed ⟨env,O,vw,n,m⟩:=b2l hK kp i d hi hd hf hr ⟨v,hp,b⟩
theorem d6y
    (hp:b9j P L rg kp oi d v ⟨env,O,vw,n,m⟩:=by
      intro t hn gx ho _ k';dsimp only at hn;first | have r0:=b07 (ho rfl) 0 rfl | have r0:=True.intro
      first | have r1:=b07 (ho rfl) 1 rfl | have r1:=True.intro
      first | have r2:=b07 (ho rfl) 2 rfl | have r2:=True.intro
      first | have r3:=b07 (ho rfl) 3 rfl | have r3:=True.intro
      first | have r4:=b07 (ho rfl) 4 rfl | have r4:=True.intro
      first | have r5:=b07 (ho rfl) 5 rfl | have r5:=True.intro
      refine .inl ?_;simp (disch:=first | decide | rfl) only [gx,r0,r1,r2,r3,r4,r5,zE,zL,zN,b0x,b0s,Nat.reduceEqDiff,reduceIte,Nat.reduceLT,implies_true,forall_const,reduceCtorEq,V.ofValue,V.ofScalar,V.un,V.gd,b1c,aop,List.length_map,f4q,c20,b1k,Blk.row,List.size_toArray,List.getD_eq_getElem?_getD,Array.getD_eq_getD_getElem?,Option.getD_some,Nat.reduceAdd,Nat.reduceLeDiff,Nat.reduceMul,b0w,Value.oneCell',List.all_cons,List.all_nil,Bool.and_self,‹Tys _›.h,‹Fc _›.h];repeat (refine b4u ?_)
      exact k'):b13 P L rg K (fuel+1) listed ⟨env,O,vw,n,m⟩:=b2l hK kp i d hi hd hf hr ⟨v,hp,b⟩
theorem f4g
    (hp:b9j P L rg kp oi d v ⟨env,O,vw,n,m⟩:=by
      intro t hn gx _ _ k';dsimp only at hn;refine .inl ?_;simp (disch:=first | decide | rfl) only [gx,zE,zL,zN,b0x,b0s,Nat.reduceEqDiff,reduceIte,Nat.reduceLT,implies_true,forall_const,reduceCtorEq,V.ofValue,V.ofScalar,V.un,V.gd,b1c,aop,c3d,b1k,Blk.row,TypeDesc.slice.injEq,Nat.reduceAdd,Nat.reduceLeDiff,Nat.reduceMul,b0w,Value.oneCell',List.all_cons,List.all_nil,Bool.and_self,‹Tys _›.h,‹Fc _›.h];repeat (refine b4u ?_)
      exact k'):b13 P L rg K (fuel+1) listed ⟨env,O,vw,n,m⟩:=b2l hK kp i d hi hd hf hr ⟨v,hp,b⟩
theorem b15
    (hp:b9j P L rg kp oi d v ⟨env,O,vw,n,m⟩:=by
      intro t hn gx _ _ k';dsimp only at hn;refine .inl ?_;simp (disch:=first | decide | rfl) only [gx,zE,zL,zO,zN,b0x,b0s,Nat.reduceEqDiff,reduceIte,Nat.reduceLT,implies_true,forall_const,reduceCtorEq,V.ofValue,V.ofScalar,V.un,V.gd,b1c,aop,c55,if_true,Nat.zero_mul,Nat.one_mul,Nat.mul_one,V.isVal,V.cells,List.mem_cons,List.not_mem_nil,or_false,forall_eq_or_imp,forall_eq,Nat.reduceAdd,Nat.reduceLeDiff,Nat.reduceMul,b0w,Value.oneCell',List.all_cons,List.all_nil,‹Tys _›.h,‹Fc _›.h];repeat (refine b4u ?_)
      exact k'):b13 P L rg K (fuel+1) listed ⟨env,O,vw,n,m⟩:=b2l hK kp i d hi hd hf hr ⟨v,hp,b⟩
theorem c8j
    (hp : b9j P L rg kp oi d v ⟨env,O,vw,n,m⟩:=by
      intro t hn gx _ _ k';dsimp only at hn;first
      | refine .inr ⟨?_,_,_,false,rfl,?_,nofun,fun _=>⟨.any,k'⟩⟩
        · simp only [hn,b7x,Nat.reduceLT]
        · first | rfl | (simp (disch:=decide) only [gx,zV,b01,Nat.reduceEqDiff,reduceIte];done)
      | skip
        refine .inl ?_;simp (disch:=first | decide | rfl) only [gx,zE,zL,zO,zN,b0x,b0s,Nat.reduceEqDiff,reduceIte,Nat.reduceLT,implies_true,forall_const,reduceCtorEq,V.ofValue,V.ofScalar,V.un,V.gd,b01,V.wrap,b1c,aop,c55,if_true,Nat.zero_mul,Nat.one_mul,Nat.mul_one,V.isVal,V.cells,List.mem_cons,List.not_mem_nil,or_false,forall_eq_or_imp,forall_eq,Nat.reduceAdd,Nat.reduceLeDiff,Nat.reduceMul,b0w,Value.oneCell',List.all_cons,List.all_nil,‹Tys _›.h,‹Fc _›.h];repeat (refine b4u ?_)
        exact k'):b13 P L rg K (fuel+1) listed ⟨env,O,vw,n,m⟩:=b2l hK kp i d hi hd hf hr ⟨v,hp,b⟩
theorem zdU
    (hp:b9j P L rg kp oi d v ⟨env,O,vw,n,m⟩:=by
      intro t hn gx _ _ k';dsimp only at hn;refine .inl ?_;simp (disch:=first | decide | rfl) only [gx,zE,zL,zN,b0x,b0s,Nat.reduceEqDiff,reduceIte,Nat.reduceLT,implies_true,forall_const,reduceCtorEq,V.ofValue,V.ofScalar,V.un,V.gd,b1c,aop,aUn,b4f,Nat.reduceAdd,Nat.reduceLeDiff,Nat.reduceMul,b8t,Int.toNat_natCast,Int.reduceToNat,b7b,b0w,Value.oneCell',List.all_cons,List.all_nil,Bool.and_self,‹Tys _›.h,‹Fc _›.h];repeat (refine b4u ?_)
      exact k'):b13 P L rg K (fuel+1) listed ⟨env,O,vw,n,m⟩:=b2l hK kp i d hi hd hf hr ⟨v,hp,b⟩
theorem b1n
    (hp : b9j P L rg kp oi d v ⟨env,O,vw,n,m⟩:=by
      intro t hn gx _ _ k';dsimp only at hn;first
      | refine .inr ⟨?_,_,_,false,rfl,?_,nofun,fun _=>⟨.any,k'⟩⟩
        · simp only [hn,b7x,Nat.reduceLT]
        · first | rfl | (simp (disch:=decide) only [gx,zV,b01,Nat.reduceEqDiff,reduceIte];done)
      | skip
        refine .inl ?_;simp (disch:=first | decide | rfl) only [gx,zE,zL,zN,b0x,b0s,Nat.reduceEqDiff,reduceIte,Nat.reduceLT,implies_true,forall_const,reduceCtorEq,V.ofValue,V.ofScalar,V.un,V.gd,b01,V.wrap,b1c,aop,aUn,b4f,Nat.reduceAdd,Nat.reduceLeDiff,Nat.reduceMul,b8t,Int.toNat_natCast,Int.reduceToNat,b7b,b0w,Value.oneCell',List.all_cons,List.all_nil,Bool.and_self,‹Tys _›.h,‹Fc _›.h];repeat (refine b4u ?_)
        exact k'):b13 P L rg K (fuel+1) listed ⟨env,O,vw,n,m⟩:=b2l hK kp i d hi hd hf hr ⟨v,hp,b⟩
end
section
variable {P:Program} {L:c4f} {rg:Array Oper} {K:St→Prop} {fuel:Nat} {listed:Array Bool} {s:St} {oi:Oper} {rest:List Oper} {B:Prop} (i:Nat) (hi:rg.toList.drop i=oi::rest:=by rfl) (hr:Region.ready .any rg listed=[i]:=by kernel_rfl)
include i hi hr
theorem b0q
    (e:Ho B→(∀K':St→Prop,(∀s,b13 P L rg K fuel (listed.setIfInBounds i true) s→K' s)→b0x P L rg oi s K'):=by
      intro b K k;simp only [zE,zS,b0x,b0s,b0j,Nat.reduceEqDiff,reduceIte,Nat.reduceLT,implies_true,forall_const,reduceCtorEq,V.ofValue,V.ofScalar,V.un,V.gd,b1c,aop,Nat.reduceAdd,b0w,Value.oneCell',List.all_cons,List.all_nil,Bool.and_self,‹Tys _›.h,‹Fc _›.h];repeat (refine b4u ?_)
      apply k _;clear k K;exact b.h) (b:B):b13 P L rg K (fuel+1) listed s:=b4j i hi hr (e ⟨b⟩)
theorem b06
    (e:Ho B→(∀K':St→Prop,(∀s,b13 P L rg K fuel (listed.setIfInBounds i true) s→K' s)→b0x P L rg oi s K'):=by
      intro b K k;simp only [zE,zS,zJ,zL,zO,zN,b0x,b0s,b0j,Nat.reduceEqDiff,reduceIte,Nat.reduceLT,implies_true,forall_const,reduceCtorEq,V.ofValue,V.ofScalar,V.un,V.gd,b1c,aop,b7r,b2e,V.isVal,V.cells,b4h,b2m,V.noSl,V.noRef,gt_iff_lt,Nat.reduceAdd,Nat.reduceLeDiff,Nat.reduceMul,b9k,b1v,b2x,b1k,Blk.row,b4d,Nat.reduceBEq,c25,b0w,Value.oneCell',‹Tys _›.h,‹Fc _›.h];repeat (refine b4u ?_)
      apply k _;clear k K;exact b.h) (b:B):b13 P L rg K (fuel+1) listed s:=b4j i hi hr (e ⟨b⟩)
theorem c33
    (e:Ho B→(∀K':St→Prop,(∀s,b13 P L rg K fuel (listed.setIfInBounds i true) s→K' s)→b0x P L rg oi s K'):=by
      intro b K k;simp only [zE,zS,zO,zN,b0x,b0s,b0j,Nat.reduceEqDiff,reduceIte,Nat.reduceLT,implies_true,forall_const,reduceCtorEq,V.ofValue,V.ofScalar,V.un,V.gd,b1c,aop,Nat.reduceAdd,Value.oneCell',V.isVal,V.cells,b4h,b2m,V.noSl,V.noRef,List.all_cons,List.all_nil,List.map_cons,List.map_nil,gt_iff_lt,Nat.reduceLeDiff,Nat.reduceMul,b0w,‹Tys _›.h,‹Fc _›.h];repeat (refine b4u ?_)
      apply k _;clear k K;exact b.h) (b:B):b13 P L rg K (fuel+1) listed s:=b4j i hi hr (e ⟨b⟩)
theorem b1j
    (e:Ho B→(∀K':St→Prop,(∀s,b13 P L rg K fuel (listed.setIfInBounds i true) s→K' s)→b0x P L rg oi s K'):=by
      intro b K k;simp only [zE,zO,zN,b0x,b0s,b0j,Nat.reduceEqDiff,reduceIte,Nat.reduceLT,implies_true,forall_const,reduceCtorEq,V.ofValue,V.ofScalar,V.un,V.gd,b1c,aop,b7z,g08,g0v,g1l,g0q,g04,g03,g1g,g0w,g1f,g07,g4f,f2p,f2z,List.map_cons,List.map_nil,List.all_cons,List.all_nil,V.isVal,V.cells,b3z,b0w,b2m,V.noRef,V.noSl,List.mem_cons,List.not_mem_nil,or_false,forall_eq_or_imp,forall_eq,if_true,Option.isSome_some,List.length_cons,List.length_nil,Nat.reduceAdd,Nat.reduceLeDiff,Nat.reduceMul,Value.oneCell',‹Tys _›.h,‹Fc _›.h];repeat (refine b4u ?_)
      apply k _;clear k K;exact b.h) (b:B):b13 P L rg K (fuel+1) listed s:=b4j i hi hr (e ⟨b⟩)
theorem b0l
    (e:Ho B→(∀K':St→Prop,(∀s,b13 P L rg K fuel (listed.setIfInBounds i true) s→K' s)→b0x P L rg oi s K'):=by
      intro b K k;simp only [zE,zL,zO,zN,b0x,b0s,b0j,Nat.reduceEqDiff,reduceIte,Nat.reduceLT,implies_true,forall_const,reduceCtorEq,V.ofValue,V.ofScalar,V.un,V.gd,b1c,aop,c2f,beq_self_eq_true,List.nodup_cons,List.mem_singleton,forall_eq',List.size_toArray,List.getD_eq_getElem?_getD,Array.getD_eq_getD_getElem?,Option.getD_some,b62,c7q,c5p,b37,b9k,b1v,b2x,b1k,Blk.row,b4d,V.isSub,V.noSl,Value.cells,Option.toList,List.forall_mem_map,List.length_map,List.all_cons,List.all_nil,List.isEmpty_nil,List.isEmpty_cons,List.not_mem_nil,List.nodup_nil,c1h,c86,c15,c7m,c7n,b8w,c0h,List.mem_cons,or_false,forall_eq_or_imp,forall_eq,List.set_cons_zero,List.set_cons_succ,List.length_append,Go.Vm.V.cells,Nat.reduceAdd,Nat.reduceLeDiff,Nat.reduceMul,b0w,Value.oneCell',‹Tys _›.h,‹Fc _›.h];repeat (refine b4u ?_)
      apply k _;clear k K;exact b.h) (b:B):b13 P L rg K (fuel+1) listed s:=b4j i hi hr (e ⟨b⟩)
theorem b3a
    (e:Ho B→(Region.ready .any rg listed=[i])→(rg.toList.drop i=oi::rest)→b13 P L rg K (fuel+1) listed s:=by
      intro b hr hi;first
      | apply b2w _ _ _ _ hi rfl (qmm rfl) hr rfl
        · first | rfl | (simp only [zV,b01,Nat.reduceEqDiff,reduceIte];done)
        simp only [zW,b0j,Nat.reduceEqDiff,reduceIte];exact b.h
      | skip
        apply b4j _ hi hr;intro K k;simp only [zE,zO,zV,zN,b0x,b0s,b0j,Nat.reduceEqDiff,reduceIte,Nat.reduceLT,implies_true,forall_const,reduceCtorEq,V.ofValue,V.ofScalar,V.un,V.gd,b01,V.wrap,b1c,aop,b7z,g08,g0v,g1l,g0q,g04,g03,g1g,g0w,g1f,g07,g4f,f2p,f2z,List.map_cons,List.map_nil,List.all_cons,List.all_nil,V.isVal,V.cells,b3z,b0w,b2m,V.noRef,V.noSl,List.mem_cons,List.not_mem_nil,or_false,forall_eq_or_imp,forall_eq,if_true,Option.isSome_some,List.length_cons,List.length_nil,Nat.reduceAdd,Nat.reduceLeDiff,Nat.reduceMul,Value.oneCell',‹Tys _›.h,‹Fc _›.h];repeat (refine b4u ?_)
        apply k _;clear k K;exact b.h) (b:B):b13 P L rg K (fuel+1) listed s:=e ⟨b⟩ hr hi
end
section
variable {P:Program} {L:c4f} {rg:Array Oper} {K:St→Prop} {fuel:Nat} {listed:Array Bool} {s:St} {oi:Oper} {rest:List Oper} {B:Prop} {C:Prop} (i:Nat) (con:C) (hi:rg.toList.drop i=oi::rest:=by rfl) (hr:Region.ready .any rg listed=[i]:=by kernel_rfl)
include i con hi hr
theorem zoc
    (e:C→Ho B→(∀K':St→Prop,(∀s,b13 P L rg K fuel (listed.setIfInBounds i true) s→K' s)→b0x P L rg oi s K'):=by
      intro con b K k;simp only [zE,zM,b0x,b0s,b0j,Nat.reduceEqDiff,reduceIte,Nat.reduceLT,implies_true,forall_const,reduceCtorEq,V.ofValue,V.ofScalar,V.un,V.gd,b1c,b3x,b4q,‹Tys _›.h,‹Fc _›.h];repeat (refine d43 ?_)
      refine b7h con (by first | rfl | (simp only [b1u,b2y,b1o,b1d,b2i,Option.map_some,idx,b1k,List.getElem?_cons_zero,List.getElem?_cons_succ,Option.bind_some,Blk.row,b02,b1m,b10,b1x,b1y,b1z,cond_true,List.map_take];done) | (simp [b1u,b2y,b1o,b1d,b2i,idx,b1k,Blk.row,b02,b1m,b10,b1x,b1y,b1z,Nat.beq_refl];done)) (by first | exact .inl ⟨rfl,by simp [Blk.kindIs,b4c,b7i]⟩ | exact .inr (by simp [V.cold])) ?_;apply k _;clear k K;simp only [zY,zW,b0j,Nat.reduceEqDiff,reduceIte,V.ren,V.renL,rho,Nat.reduceAdd];exact b.h) (b:B):b13 P L rg K (fuel+1) listed s:=b4j i hi hr (e con ⟨b⟩)
theorem d3v
    (e:C→Ho B→(Region.ready .any rg listed=[i])→(rg.toList.drop i=oi::rest)→b13 P L rg K (fuel+1) listed s:=by
      intro con b hr hi;first
      | apply b2w _ _ _ _ hi rfl (qmm rfl) hr rfl
        · first | rfl | (simp only [zV,b01,Nat.reduceEqDiff,reduceIte];done)
        simp only [zW,b0j,Nat.reduceEqDiff,reduceIte];exact b.h
      | skip
        apply b4j _ hi hr;intro K k;simp only [zE,zG,b0x,b0s,b0j,Nat.reduceEqDiff,reduceIte,Nat.reduceLT,implies_true,forall_const,reduceCtorEq,V.ofValue,V.ofScalar,V.un,V.gd,b01,‹Tys _›.h,‹Fc _›.h];simp only [zM,zW,b1c,b3x,b4q,b0j,Nat.reduceEqDiff,reduceIte,V.ofValue,V.ofScalar,V.un,V.gd,and_true,true_and,implies_true,and_self,decide_eq_true_eq];first | refine Exists.imp (fun r h=>h) (c1f con (by first | rfl | (simp only [b1u,b2y,b1o,b1d,b2i,Option.map_some,idx,b1k,List.getElem?_cons_zero,List.getElem?_cons_succ,Option.bind_some,Blk.row,b02,b1m,b10,b1x,b1y,b1z,cond_true,List.map_take];done) | (simp [b1u,b2y,b1o,b1d,b2i,idx,b1k,Blk.row,b02,b1m,b10,b1x,b1y,b1z,Nat.beq_refl];done)) rfl rfl ?_) | refine Exists.imp (fun r h=>h) (c1k (fun hg=>con) (by first | rfl | (simp only [b1u,b2y,b1o,b1d,b2i,Option.map_some,idx,b1k,List.getElem?_cons_zero,List.getElem?_cons_succ,Option.bind_some,Blk.row,b02,b1m,b10,b1x,b1y,b1z,cond_true,List.map_take];done) | (simp [b1u,b2y,b1o,b1d,b2i,idx,b1k,Blk.row,b02,b1m,b10,b1x,b1y,b1z,Nat.beq_refl];done)) rfl rfl ?_) | refine Exists.imp (fun r h=>h) (c3w (by first | (intros;trivial) | (intros;simp_all;done)) (fun hg=>con) (by first | rfl | (simp only [b1u,b2y,b1o,b1d,b2i,Option.map_some,idx,b1k,List.getElem?_cons_zero,List.getElem?_cons_succ,Option.bind_some,Blk.row,b02,b1m,b10,b1x,b1y,b1z,cond_true,List.map_take];done) | (simp [b1u,b2y,b1o,b1d,b2i,idx,b1k,Blk.row,b02,b1m,b10,b1x,b1y,b1z,Nat.beq_refl];done)) rfl rfl ?_)
        apply k _;clear k K;exact b.h) (b:B):b13 P L rg K (fuel+1) listed s:=e con ⟨b⟩ hr hi
theorem g0t
    (e:C→Ho B→(Region.ready .any rg listed=[i])→(rg.toList.drop i=oi::rest)→b13 P L rg K (fuel+1) listed s:=by
      intro con b hr hi;first
      | apply b2w _ _ _ _ hi rfl (qmm rfl) hr rfl
        · first | rfl | (simp only [zV,b01,Nat.reduceEqDiff,reduceIte];done)
        simp only [zW,b0j,Nat.reduceEqDiff,reduceIte];exact b.h
      | skip
        apply b4j _ hi hr;intro K k;simp only [zE,zG,b0x,b0s,b0j,Nat.reduceEqDiff,reduceIte,Nat.reduceLT,implies_true,forall_const,reduceCtorEq,V.ofValue,V.ofScalar,V.un,V.gd,b01,‹Tys _›.h,‹Fc _›.h];simp only [zM,zW,b1c,b3x,b4q,b0j,Nat.reduceEqDiff,reduceIte,V.ofValue,V.ofScalar,V.un,V.gd,and_true,true_and,implies_true,and_self,decide_eq_true_eq];first | refine Exists.imp (fun r h=>h) (c1f con (by first | rfl | (simp only [b1u,b2y,b1o,b1d,b2i,Option.map_some,idx,b1k,List.getElem?_cons_zero,List.getElem?_cons_succ,Option.bind_some,Blk.row,b02,b1m,b10,b1x,b1y,b1z,cond_true,List.map_take,‹Caps _›.cc,‹Caps _›.ca];done) | (simp [b1u,b2y,b1o,b1d,b2i,idx,b1k,Blk.row,b02,b1m,b10,b1x,b1y,b1z,Nat.beq_refl,‹Caps _›.cc,‹Caps _›.ca];done)) rfl rfl ?_) | refine Exists.imp (fun r h=>h) (c1k (fun hg=>con) (by first | rfl | (simp only [b1u,b2y,b1o,b1d,b2i,Option.map_some,idx,b1k,List.getElem?_cons_zero,List.getElem?_cons_succ,Option.bind_some,Blk.row,b02,b1m,b10,b1x,b1y,b1z,cond_true,List.map_take,‹Caps _›.cc,‹Caps _›.ca];done) | (simp [b1u,b2y,b1o,b1d,b2i,idx,b1k,Blk.row,b02,b1m,b10,b1x,b1y,b1z,Nat.beq_refl,‹Caps _›.cc,‹Caps _›.ca];done)) rfl rfl ?_) | refine Exists.imp (fun r h=>h) (c3w (by first | (intros;trivial) | (intros;simp_all;done)) (fun hg=>con) (by first | rfl | (simp only [b1u,b2y,b1o,b1d,b2i,Option.map_some,idx,b1k,List.getElem?_cons_zero,List.getElem?_cons_succ,Option.bind_some,Blk.row,b02,b1m,b10,b1x,b1y,b1z,cond_true,List.map_take,‹Caps _›.cc,‹Caps _›.ca];done) | (simp [b1u,b2y,b1o,b1d,b2i,idx,b1k,Blk.row,b02,b1m,b10,b1x,b1y,b1z,Nat.beq_refl,‹Caps _›.cc,‹Caps _›.ca];done)) rfl rfl ?_)
        apply k _;clear k K;exact b.h) (b:B):b13 P L rg K (fuel+1) listed s:=e con ⟨b⟩ hr hi
end
end Go.Vm
namespace Go.Vm
open Go
def g2s (o:Oper):Nat:=(match o.op with
  | .move _=>0
  | .assign _=>2
  | .pick _ _ _=>4
  | .alloc _=>6
  | .box _ _=>8
  | .build _ _=>10
  | .buildSlice _ _ _=>12
  | .load _ _=>14
  | .store _ _ _=>16
  | .nilCheck _=>18
  | .unOp _ _ _=>26
  | .convert _ _ _=>28
  | .makeSlice _ _ _=>30
  | .slice _ _ _ _ _=>32
  | .fieldAddr _ _ _=>34
  | .field _ _ _=>36
  | .indexAddr _ _ _=>38
  | .index _ _ _=>40
  | .extract _ _=>42
  | .makeFunc _ _ _=>56
  | .binOp b _ _ y _=>(match y with
    | .const (.slice _ _ _)=>90
    | _=>match b with
      | .add | .sub | .mul | .quo=>22
      | _=>20)
  | .call c=>(match c.callee with
    | .builtin .len=>44
    | .builtin .append=>46
    | .builtin .max=>48
    | .builtin .min=>50
    | .builtin .copy=>52
    | .builtin .clear=>54
    | _=>60)
  | _=>90)+(match o.guard with
  | none=>0
  | _=>1)
theorem b6l {P L rg K o rest s} (n:Nat) (hn:g2s o=n) (h:d3s P L rg K (o::rest) s):d3s P L rg K (o::rest) s:=h
structure Ks (ks:List Nat):Prop where
  t:True
theorem c3q {m id:Nat} {s:St} {ops:Array Oper} {ks:List Nat} {P L Q y} (_:Ks ks)
    (h:∀K:St→Prop,(∀s,awp P L m y Q (s.keep ks)→K s)→d3s P L ops K ops.toList s):awp P L m (.seq (.region id ops false) y) Q s:=b1l ks h
theorem rA {R:St→Prop} {Q:AEx→St→Prop} {x:AEx} {s} (h:∀s,R s→Q x s) (g:R s):Q x s:=h s g
theorem eA {R:Nat→St→Prop} {Q:AEx→St→Prop} {i:Nat} {s} (h:∀i s,R i s→Q (.exit i) s) (g:R i s):Q (.exit i) s:=h i s g
theorem eB {R:Nat→St→Prop} {Q:AEx→St→Prop} {i j:Nat} {s} (h:∀i s,i≠j→R i s→Q (.exit i) s) (hi:i≠j) (g:R i s):Q (.exit i) s:=h i s hi g
theorem nA {m:Nat} {ks:List Nat} {A:St→Prop} {Q:AEx→St→Prop} {s:St} (_:Ks ks) (h:∀s s1,b44 m s s1→A s1→Q .normal s) (g:A (s.keep ks)):Q .normal s:=h _ _ (b0a ks s) g
theorem zz {A B:Prop} (e:Ho B→A:=by
  intro b;repeat (first
    | (refine b6l 0 rfl ?_;apply (zU))
    | (refine b6l 14 rfl ?_;apply (d5m))
    | (refine b6l 20 rfl ?_;apply (d8q))
    | (refine b6l 2 rfl ?_;apply (b2h))
    | (refine b6l 34 rfl ?_;apply (zU))
    | (refine b6l 38 rfl ?_;apply (b8e))
    | (refine b6l 16 rfl ?_;apply (b55))
    | (refine b6l 42 rfl ?_;apply (zU))
    | (refine b6l 44 rfl ?_;apply (g4m))
    | (refine b6l 22 rfl ?_;apply (b46))
    | (refine b6l 28 rfl ?_;apply (c4o))
    | (refine b6l 26 rfl ?_;apply (zU))
    | (refine b6l 32 rfl ?_;apply (f8j))
    | (refine b6l 6 rfl ?_;apply (d5x))
    | (refine b6l 8 rfl ?_;apply (g2p))
    | (refine b6l 10 rfl ?_;apply (c7k))
    | (refine b6l 12 rfl ?_;apply (b2c))
    | (refine b6l 46 rfl ?_;apply (c5u))
    | (refine b6l 4 rfl ?_;apply (c74))
    | (refine b6l 18 rfl ?_;apply (zU))
    | (refine b6l 30 rfl ?_;apply (f0e))
    | (refine b6l 36 rfl ?_;apply (zU))
    | (refine b6l 40 rfl ?_;apply (zU))
    | (refine b6l 48 rfl ?_;apply (g2m))
    | (refine b6l 50 rfl ?_;apply (g2w))
    | (refine b6l 52 rfl ?_;apply (g1s))
    | (refine b6l 54 rfl ?_;apply (g00))
    | (refine b6l 56 rfl ?_;apply (f2f))
    | (refine b6l 1 rfl ?_;apply (zgU))
    | (refine b6l 15 rfl ?_;apply (c0e))
    | (refine b6l 21 rfl ?_;apply (b5q))
    | (refine b6l 3 rfl ?_;apply (f7a))
    | (refine b6l 35 rfl ?_;apply (zgU))
    | (refine b6l 39 rfl ?_;apply (c00))
    | (refine b6l 17 rfl ?_;apply (f9v))
    | (refine b6l 43 rfl ?_;apply (zgU))
    | (refine b6l 45 rfl ?_;apply (d7v))
    | (refine b6l 23 rfl ?_;apply (c8k))
    | (refine b6l 29 rfl ?_;apply (f5m))
    | (refine b6l 27 rfl ?_;apply (zgU))
    | (refine b6l 33 rfl ?_;apply (f9z))
    | (refine b6l 7 rfl ?_;apply (g5r))
    | (refine b6l 9 rfl ?_;apply (g1x))
    | (refine b6l 11 rfl ?_;apply (f9x))
    | (refine b6l 13 rfl ?_;apply (d5v))
    | (refine b6l 47 rfl ?_;apply (g5a))
    | (refine b6l 5 rfl ?_;apply (f2h))
    | (refine b6l 19 rfl ?_;apply (zgU))
    | (refine b6l 31 rfl ?_;apply (d7o))
    | (refine b6l 37 rfl ?_;apply (zgU))
    | (refine b6l 41 rfl ?_;apply (zgU))
    | (refine b6l 49 rfl ?_;apply (g2b))
    | (refine b6l 51 rfl ?_;apply (g1v))
    | (refine b6l 53 rfl ?_;apply (g05))
    | (refine b6l 55 rfl ?_;apply (g5k))
    | (refine b6l 57 rfl ?_;apply (f0z)))
  exact b.h) (b:B):A:=e ⟨b⟩
theorem zr {A B:Prop} (e:Ho B→A:=by
  intro b;apply f9k;repeat (refine rA (by assumption) ?_)
  apply (zf);exact b.h) (b:B):A:=e ⟨b⟩
theorem zn (ks:List Nat) {A B:Prop} (e:Ks ks→Ho B→A:=by
  intro q b;first | refine b6m ?_ | refine f8m ?_ | skip
  repeat (first | refine rA (by assumption) ?_ | refine eA (by assumption) ?_ | refine eB (by assumption) (by decide) ?_)
  refine nA q (by assumption) ?_;simp only [b0r,b0k,b0i,b0f,b0n,Nat.reduceEqDiff,reduceIte];exact b.h) (b:B):A:=e ⟨trivial⟩ ⟨b⟩
theorem zx {A B:Prop} (e:Ho B→A:=by
  intro b;first | refine b6m ?_ | apply f8m
  repeat (first | refine rA (by assumption) ?_ | refine eA (by assumption) ?_ | refine eB (by assumption) (by decide) ?_)
  exact b.h) (b:B):A:=e ⟨b⟩
theorem yR (ks:List Nat) {A B:Prop} (e:Ks ks→Ho B→A:=by
  intro q b;apply c3q q;intro K k;apply (zz);apply k _;clear k K;simp only [b0r,b0k,b0i,b0f,b0n,Nat.reduceEqDiff,reduceIte];exact b.h) (b:B):A:=e ⟨trivial⟩ ⟨b⟩
theorem yQ (ks:List Nat) {A B:Prop} (e:Ks ks→Ho B→A:=by
  intro q b;apply b2u;intro K k;apply (zz);apply k _;clear k K;repeat (first | refine rA (by assumption) ?_ | refine eA (by assumption) ?_ | refine eB (by assumption) (by decide) ?_)
  refine nA q (by assumption) ?_;simp only [b0r,b0k,b0i,b0f,b0n,Nat.reduceEqDiff,reduceIte];exact b.h) (b:B):A:=e ⟨trivial⟩ ⟨b⟩
theorem yV {A B:Prop} (e:Ho B→A:=by
  intro b;apply b2u;intro K k;apply (zz);apply k _;clear k K;repeat (first | refine rA (by assumption) ?_ | refine eA (by assumption) ?_ | refine eB (by assumption) (by decide) ?_)
  exact b.h) (b:B):A:=e ⟨b⟩
theorem yRc (ks:List Nat) {C0 A B:Prop} (con0:C0) (e:Ks ks→C0→Ho B→A:=by
  intro q con0 b;apply c3q q;intro K k;apply (zz);apply zc con0;apply (zz);apply k _;clear k K;simp only [b0r,b0k,b0i,b0f,b0n,Nat.reduceEqDiff,reduceIte];exact b.h) (b:B):A:=e ⟨trivial⟩ con0 ⟨b⟩
theorem yRg (ks:List Nat) {C0 A B:Prop} (con0:C0) (e:Ks ks→C0→Ho B→A:=by
  intro q con0 b;apply c3q q;intro K k;apply (zz);apply zgc con0;apply (zz);apply k _;clear k K;simp only [b0r,b0k,b0i,b0f,b0n,Nat.reduceEqDiff,reduceIte];exact b.h) (b:B):A:=e ⟨trivial⟩ con0 ⟨b⟩
theorem yRl (ks:List Nat) {C0 A B:Prop} (con0:C0) (e:Ks ks→C0→Ho B→A:=by
  intro q con0 b;apply c3q q;intro K k;apply (zz);apply zcl con0;apply (zz);apply k _;clear k K;simp only [b0r,b0k,b0i,b0f,b0n,Nat.reduceEqDiff,reduceIte];exact b.h) (b:B):A:=e ⟨trivial⟩ con0 ⟨b⟩
theorem g2c (ks:List Nat) {C0 C1 A B:Prop} (con0:C0) (con1:C1) (e:Ks ks→C0→C1→Ho B→A:=by
  intro q con0 con1 b;apply c3q q;intro K k;apply (zz);apply zc con0;apply (zz);apply zc con1;apply (zz);apply k _;clear k K;simp only [b0r,b0k,b0i,b0f,b0n,Nat.reduceEqDiff,reduceIte];exact b.h) (b:B):A:=e ⟨trivial⟩ con0 con1 ⟨b⟩
theorem d6n (ks:List Nat) {C0 C1 A B:Prop} (con0:C0) (con1:C1) (e:Ks ks→C0→C1→Ho B→A:=by
  intro q con0 con1 b;apply c3q q;intro K k;apply (zz);apply zc con0;apply (zz);apply zgc con1;apply (zz);apply k _;clear k K;simp only [b0r,b0k,b0i,b0f,b0n,Nat.reduceEqDiff,reduceIte];exact b.h) (b:B):A:=e ⟨trivial⟩ con0 con1 ⟨b⟩
theorem g1p (ks:List Nat) {C0 C1 A B:Prop} (con0:C0) (con1:C1) (e:Ks ks→C0→C1→Ho B→A:=by
  intro q con0 con1 b;apply c3q q;intro K k;apply (zz);apply zgc con0;apply (zz);apply zgc con1;apply (zz);apply k _;clear k K;simp only [b0r,b0k,b0i,b0f,b0n,Nat.reduceEqDiff,reduceIte];exact b.h) (b:B):A:=e ⟨trivial⟩ con0 con1 ⟨b⟩
theorem c5h (ks:List Nat) {C0 C1 C2 A B:Prop} (con0:C0) (con1:C1) (con2:C2) (e:Ks ks→C0→C1→C2→Ho B→A:=by
  intro q con0 con1 con2 b;apply c3q q;intro K k;apply (zz);apply zc con0;apply (zz);apply zgc con1;apply (zz);apply zgc con2;apply (zz);apply k _;clear k K;simp only [b0r,b0k,b0i,b0f,b0n,Nat.reduceEqDiff,reduceIte];exact b.h) (b:B):A:=e ⟨trivial⟩ con0 con1 con2 ⟨b⟩
theorem g2e (ks:List Nat) {C0 C1 C2 A B:Prop} (con0:C0) (con1:C1) (con2:C2) (e:Ks ks→C0→C1→C2→Ho B→A:=by
  intro q con0 con1 con2 b;apply c3q q;intro K k;apply (zz);apply zgc con0;apply (zz);apply zgc con1;apply (zz);apply zgc con2;apply (zz);apply k _;clear k K;simp only [b0r,b0k,b0i,b0f,b0n,Nat.reduceEqDiff,reduceIte];exact b.h) (b:B):A:=e ⟨trivial⟩ con0 con1 con2 ⟨b⟩
theorem yR3 (ks:List Nat) {C0 A B:Prop} (con0:C0) (e:Ks ks→C0→Ho B→A:=by
  intro q con0 b;apply c3q q;intro K k;apply (zz);apply g2o con0;apply (zz);apply k _;clear k K;simp only [b0r,b0k,b0i,b0f,b0n,Nat.reduceEqDiff,reduceIte];exact b.h) (b:B):A:=e ⟨trivial⟩ con0 ⟨b⟩
theorem yQc (ks:List Nat) {C0 A B:Prop} (con0:C0) (e:Ks ks→C0→Ho B→A:=by
  intro q con0 b;apply b2u;intro K k;apply (zz);apply zc con0;apply (zz);apply k _;clear k K;repeat (first | refine rA (by assumption) ?_ | refine eA (by assumption) ?_ | refine eB (by assumption) (by decide) ?_)
  refine nA q (by assumption) ?_;simp only [b0r,b0k,b0i,b0f,b0n,Nat.reduceEqDiff,reduceIte];exact b.h) (b:B):A:=e ⟨trivial⟩ con0 ⟨b⟩
theorem yVc {C0 A B:Prop} (con0:C0) (e:C0→Ho B→A:=by
  intro con0 b;apply b2u;intro K k;apply (zz);apply zc con0;apply (zz);apply k _;clear k K;repeat (first | refine rA (by assumption) ?_ | refine eA (by assumption) ?_ | refine eB (by assumption) (by decide) ?_)
  exact b.h) (b:B):A:=e con0 ⟨b⟩
end Go.Vm
namespace Go.Vm
open Go
def c36 (O O':List Blk):Prop:=∀(id:Nat) (b:Blk),id≠0→O[id]? =some b→O'[id]? =some b
theorem c36.refl (O:List Blk):c36 O O:=fun _ _ _ h=>h
theorem c36.app {O new}:c36 O (O++new):=fun id b _ h=>Grow.app O new id b h
theorem c36.set0 {O:List Blk} {new b}:c36 O (O.set 0 b++new):=fun id c h0 h=>Grow.app _ new id c (by rw [qld (Ne.symm h0)];exact h)
theorem c36.set1 {O:List Blk} {i:Nat} {new b c} (h:O[i]? =some c):c36 O ((O.set 0 b).set i c++new):=fun id d h0 q=>Grow.app _ new id d (by
  by_cases e:i=id
  · subst e
    rw [qlf (by rw [qlr];exact (qlc.1 h).1),←h,q]
  · rw [qld e,qld (Ne.symm h0)];exact q)
abbrev TyG:=List Blk→(Nat→V)→Prop
def f2k (T:TyG) (dl:List Nat):Prop:=∀O O' g g',c36 O O'→(∀x∈dl,g' x=g x)→T O g→T O' g'
def c1z (rg:Array Oper) (j:Nat):List Nat:=match rg[j]? with
  | some o=>(o.after.toList.filter fun e=>Go.Region.binds .any e).map (·.on)
  | none=>[]
def f9l (rg:Array Oper) (i:Nat):Option Nat:=(rg[i]?).bind (·.dst)
def f9j (rg:Array Oper):Nat→List Nat→List Nat
  | 0,l=>l
  | k+1,l=>f9j rg k ((Zb rg.size).filter fun i=>l.contains i || l.any fun j=>(c1z rg j).contains i)
def d7g (rg:Array Oper) (S Rq D0:List Nat) (Dp:List (List Nat)):Bool:=
  ((Zb rg.size).all fun j=>(c1z rg j).all (Zp · j)) &&
  ((Zb rg.size).all fun j=>S.contains j || Rq.all fun i=>(f9j rg 12 (c1z rg j)).contains i) && (Rq.all fun i=>S.contains i) &&
  (S.all fun i=>Zp i rg.size && match f9l rg i with
    | none=>true
    | some d=> !D0.contains d && (Zb Dp.length).all fun j=>Z8 j i || (c1z rg j).contains i || !(Dp.getD j []).contains d)
def d3p (cv:Int→Int→Blk) (n:Nat) (env:List (Nat×V)) (mask:Nat) (O:List Blk) (a cm:Int) (d:Option Nat) (T:TyG) (t':St):Prop:=
  ∃v O' a' s',t'=(⟨env,O',false,n,mask⟩:St).set d v∧c36 O O'∧O'[0]? =some (cv a' s')∧a≤a'∧a'≤a+cm∧T O' t'.get
def g19 (P:Program) (L:c4f) (rg:Array Oper) (cv:Int→Int→Blk) (n:Nat) (a0 cm:Int) (T0:TyG) (Ts:Nat→TyG) (i:Nat) (o:Oper):Prop:=
  ∀ env O mask a s,O[0]? =some (cv a s)→(a0≤a∧a≤a0+cm * rg.size)→T0 O (fun x=>look x env)→(∀j∈c1z rg i,Ts j O (fun x=>look x env))→
    ∀K':St→Prop,(∀s,d3p cv n env mask O a cm o.dst (Ts i) s→K' s)→c75 P L rg o ⟨env,O,false,n,mask⟩ K'
structure RI (rg:Array Oper) (cv:Int→Int→Blk) (n:Nat) (a0 cm:Int) (S:List Nat) (T0:TyG) (Ts:Nat→TyG) (k:Nat) (listed:Array Bool) (t:St):Prop where
  st:∃env O mask a s,t=⟨env,O,false,n,mask⟩∧O[0]? =some (cv a s)∧a0≤a∧a≤a0+cm * k
  t0:T0 t.O t.get
  ts:∀j∈S,listed.getD j true=true→Ts j t.O t.get
  cl:∀j∈S,listed.getD j true=true→∀i∈c1z rg j,listed.getD i true=true
  sz:listed.size=rg.size
  only:∀j,j < rg.size→listed.getD j true=true→j∈S
section
variable {P:Program} {L:c4f} {rg:Array Oper} {K:St→Prop}
theorem f6l {listed:Array Bool} {j:Nat} (hj:j < rg.size) (h0:listed.getD j true=false) (h:∀i∈c1z rg j,listed.getD i false=true):j∈Region.ready .any rg listed:=by
  refine mem_ready.2 ⟨h0,rg[j],Array.getElem?_eq_getElem hj,fun e he hb=>h _ ?_⟩;have e1:rg[j]? =some rg[j]:=Array.getElem?_eq_getElem hj;simp only [c1z,e1,Z7,Z2];exact ⟨e,⟨by simpa using he,hb⟩,rfl⟩
theorem f2q {listed:Array Bool} {j:Nat} (h:j∈Region.ready .any rg listed):listed.getD j true=false∧j < rg.size∧∀i∈c1z rg j,listed.getD i false=true:=by
  obtain ⟨h0,o,ho,hall⟩:=mem_ready.1 h;refine ⟨h0,(Array.getElem?_eq_some_iff.1 ho).1,fun i hi=> ?_⟩;simp only [c1z,ho,Z7,Z2] at hi;obtain ⟨e,⟨he,hb⟩,rfl⟩:=hi;exact hall e (by simpa using he) hb
theorem d3a {listed:Array Bool} {i:Nat} (h:i < listed.size):listed.getD i false=listed.getD i true:=by
  simp [Array.getD,h]
theorem d9v {cv:Int→Int→Blk} {n:Nat} {a0 cm:Int} (S Rq D0:List Nat) (Dp:List (List Nat)) {T0:TyG} {Ts:Nat→TyG} (hreg:d7g rg S Rq D0 Dp=true) (hnd:S.Nodup) (hcm:0≤cm)
    (h0:f2k T0 D0) (hT:∀j∈S,f2k (Ts j) (Dp.getD j [])∧j < Dp.length)
    (ops:∀i∈S,∀o,rg[i]? =some o→g19 P L rg cv n a0 cm T0 Ts i o)
    (tail:∀u (listed:Array Bool) env O mask a s,listed.size=rg.size→(∀j,j < rg.size→listed.getD j true=true→j∈S)→(∀j∈Rq,listed.getD j true=true)→(S.filter fun j=> !listed.getD j true).length=u→
      O[0]? =some (cv a s)→(a0≤a∧a≤a0+cm * rg.size)→T0 O (fun x=>look x env)→(∀j∈S,listed.getD j true=true→Ts j O (fun x=>look x env))→
      b13 P L rg K (rg.size - S.length+u) listed ⟨env,O,false,n,mask⟩) :
    ∀u k listed t,RI rg cv n a0 cm S T0 Ts k listed t→(S.filter fun j=> !listed.getD j true).length=u→k+u≤rg.size→b13 P L rg K (rg.size - S.length+u) listed t:=by
  simp only [d7g,Zn] at hreg;obtain ⟨⟨⟨r1,r2⟩,r4⟩,r3⟩:=hreg;have rqS:∀j∈Rq,j∈S:=fun j hj=>by
    have:=qlk.1 r4 j hj;simpa using this
  intro u
  induction u with
  | zero=>
    intro k listed t hI hu hk;obtain ⟨env,O,mask,a,s,rfl,hc,ha1,ha2⟩:=hI.st;have hall:∀j∈S,listed.getD j true=true:=fun j hj=>by
      have:=qlt.1 hu;rw [List.filter_eq_nil_iff] at this;simpa using this j hj
    have hkk:cm * (k:Int)≤cm * (rg.size:Int):=Int.mul_le_mul_of_nonneg_left (by omega) hcm;exact tail 0 listed env O mask a s hI.sz hI.only (fun j hj=>hall j (rqS j hj)) hu hc ⟨ha1,by omega⟩ hI.t0 hI.ts
  | succ u ih =>
    intro k listed t hI hu hk;obtain ⟨env,O,mask,a,s,rfl,hc,ha1,ha2⟩:=hI.st;have hkk:cm * (k:Int)≤cm * (rg.size:Int):=Int.mul_le_mul_of_nonneg_left (by omega) hcm
    by_cases hall:∀j∈Rq,listed.getD j true=true
    · exact tail (u+1) listed env O mask a s hI.sz hI.only hall hu hc ⟨ha1,by omega⟩ hI.t0 hI.ts
    have hex:∃i∈Rq,listed.getD i true=false:=by
      refine Classical.byContradiction fun h=>hall fun j hj=> ?_
      cases q:listed.getD j true with
      | true=>rfl
      | false=>exact absurd ⟨j,hj,q⟩ h
    obtain ⟨i0,hi0q,hi1⟩:=hex;have hi0:=rqS i0 hi0q;have lt:∀j∈S,j < rg.size:=fun j hj=>by
      have:=qlk.1 r3 j hj;rw [qlg] at this;simpa using this.1
    refine ⟨fun hnil=> ?_,fun i hi o ho=> ?_⟩
    · exfalso
      have least:∀b,∀j,j < b→j < rg.size→listed.getD j true=false→False:=by
        intro b
        induction b with
        | zero=>intro j hj;omega
        | succ b ihb=>
          intro j hj hjn h0;have:j∈Region.ready .any rg listed:=f6l hjn h0 fun i hi=>by
            have hlt:i < j:=by
              have:=qlk.1 (qlk.1 r1 j (qmc.2 hjn)) i hi;simpa using this
            rw [d3a (by rw [hI.sz];omega)];cases q:listed.getD i true with
            | true=>rfl
            | false=>exact (ihb i (by omega) (by omega) q).elim
          rw [hnil] at this;cases this
      exact least (i0+1) i0 (Nat.lt_succ_self _) (lt i0 hi0) hi1
    · obtain ⟨hun,hin,haft⟩:=f2q hi
      have aftlt:∀j,j < rg.size→∀x∈c1z rg j,x < j:=fun j hj x hx=>by
        have:=qlk.1 (qlk.1 r1 j (qmc.2 hj)) x hx;simpa using this
      have clo:∀(k:Nat) (l:List Nat),(∀x∈l,x < rg.size∧listed.getD x true=true)→∀x∈f9j rg k l,listed.getD x true=true:=by
        intro k
        induction k with
        | zero=>exact fun l h x hx=>(h x hx).2
        | succ k ihk=>
          intro l h x hx;refine ihk _ (fun y hy=> ?_) x hx;rw [Z2,qmc,Ze] at hy;refine ⟨hy.1,?_⟩;rcases hy.2 with q | q
          · exact (h y (by simpa using q)).2
          · obtain ⟨j,hj,hjy⟩:=List.any_eq_true.1 q
            exact hI.cl j (hI.only j (h j hj).1 (h j hj).2) (h j hj).2 y (by simpa using hjy)
      have hiS:i∈S:=by
        have:=qlk.1 r2 i (qmc.2 hin);rw [Ze] at this;rcases this with q | q
        · simpa using q
        · have:=qlk.1 q i0 hi0q
          have:=clo 12 (c1z rg i) (fun x hx=>⟨Nat.lt_trans (aftlt i hin x hx) hin,by
            have q2:=haft x hx
            rwa [d3a (by rw [hI.sz];exact Nat.lt_trans (aftlt i hin x hx) hin)] at q2⟩) i0 (by simpa using this)
          rw [hi1] at this;cases this
      refine ops i hiS o ho env O mask a s hc ⟨ha1,by omega⟩ hI.t0 (fun j hj=> ?_) _ (fun t' hp=> ?_)
      · have h1:=haft j hj
        have hjn:j < rg.size:=by
          have:=qlk.1 (qlk.1 r1 i (qmc.2 hin)) j hj;have:j < i:=by simpa using this
          omega
        rw [d3a (by rw [hI.sz];exact hjn)] at h1;exact hI.ts j (hI.only j hjn h1) h1
      · obtain ⟨v,O',a',s',rfl,hko,hc',hb1,hb2,hT'⟩:=hp
        have hdst:f9l rg i=o.dst:=by simp [f9l,ho]
        have hget:∀x,o.dst≠some x→((⟨env,O',false,n,mask⟩:St).set o.dst v).get x=look x env:=by
          intro x hx;cases hd:o.dst with
          | none=>rfl
          | some d=>
            show look x ((d,v)::env)=look x env;rw [b0f,if_neg (fun e=>hx (by rw [hd,e]))]
        have hslot:∀d,o.dst=some d→d ∉ D0∧∀j,j < Dp.length→j≠i→i ∉ c1z rg j→d ∉ Dp.getD j []:=by
          intro d hd;have:=qlk.1 r3 i hiS;rw [qlg,hdst,hd] at this;simp only [Zn,Zd] at this;refine ⟨fun m=> ?_,fun j hj hji haj m=> ?_⟩
          · have q:=this.2.1
            rw [qmr.2 m] at q;cases q
          · have q:=qlk.1 this.2.2 j (qmc.2 hj)
            simp only [Ze,List.contains_iff_mem,Zd] at q;rcases q with (q | q) | q
            · exact hji (Zj q)
            · exact haj q
            · rw [qmr.2 m] at q;cases q
        have hstO:((⟨env,O',false,n,mask⟩:St).set o.dst v).O=O':=by rw [f3b]
        have hlist:∀j,(listed.setIfInBounds i true).getD j true=true→j=i∨listed.getD j true=true:=fun j h=>by
          by_cases e:j=i
          · exact .inl e
          · rw [getD_set_ne true (Ne.symm e)] at h;exact .inr h
        have hself:∀j,listed.getD j true=true→(listed.setIfInBounds i true).getD j true=true:=fun j h=>by
          by_cases e:j=i
          · subst e;rw [hun] at h;cases h
          · rw [getD_set_ne true (Ne.symm e)];exact h
        have hselfi:(listed.setIfInBounds i true).getD i true=true:=by
          simp [Array.getD,hI.sz,hin]
        refine ih (k+1) _ _ ⟨?_,?_,?_,?_,by simp [hI.sz],fun j hj h=> ?_⟩ ?_ (by omega)
        · have e2:cm * ((k+1:Nat):Int)=cm * (k:Int)+cm:=by rw [Int.natCast_add,Int.mul_add];simp
          cases hd:o.dst with
          | none=>exact ⟨env,O',mask,a',s',rfl,hc',by omega,by omega⟩
          | some d=>exact ⟨(d,v)::env,O',mask,a',s',rfl,hc',by omega,by omega⟩
        · rw [hstO]
          refine h0 O O' _ _ hko (fun x hx=>hget x (fun hd=>(hslot x hd).1 hx)) hI.t0
        · intro j hj h
          rw [hstO];rcases hlist j h with rfl | h2
          · exact hT'
          · have hne:j≠i:=fun e=>by rw [e,hun] at h2;cases h2
            have hna:i ∉ c1z rg j:=fun m=>by
              have:=hI.cl j hj h2 i m;rw [hun] at this;cases this
            exact (hT j hj).1 O O' _ _ hko (fun x hx=>hget x (fun hd=>(hslot x hd).2 j (hT j hj).2 hne hna hx)) (hI.ts j hj h2)
        · intro j hj h x hx
          rcases hlist j h with rfl | h
          · have hxn:x < rg.size:=by
              have:=qlk.1 (qlk.1 r1 j (qmc.2 hin)) x hx;have:x < j:=by simpa using this
              omega
            have:=haft x hx;rw [d3a (by rw [hI.sz];exact hxn)] at this;exact hself x this
          · exact hself x (hI.cl j hj h x hx)
        · rcases hlist j h with rfl | h
          · exact hiS
          · exact hI.only j hj h
        · have key:∀(l:List Nat),l.Nodup→i∈l→(l.filter fun j=> !(listed.setIfInBounds i true).getD j true).length+1=(l.filter fun j=> !listed.getD j true).length:=by
            intro l
            induction l with
            | nil=>intro _ h;cases h
            | cons x l ihl=>
              intro hnd hm;rw [Z0] at hnd
              by_cases e:x=i
              · subst e
                have e1:(l.filter fun j=> !(listed.setIfInBounds x true).getD j true)=l.filter fun j=> !listed.getD j true:=
                  List.filter_congr fun j hj=>by rw [getD_set_ne true (fun q:x=j=>hnd.1 (q ▸ hj))]
                rw [qms,qms,hselfi,hun,e1];simp
              · have hm':i∈l:=by
                  rcases qlv.1 hm with q | q
                  · exact absurd q.symm e
                  · exact q
                have q:=ihl hnd.2 hm';rw [qms,qms,getD_set_ne true (Ne.symm e)];split
                · simp only [List.length_cons];omega
                · exact q
          have:=key S hnd hiS;omega
end
end Go.Vm
namespace Go.Vm
open Go
def b9r:TyG:=fun _ _=>True
theorem f9y {dl:List Nat}:f2k b9r dl:=fun _ _ _ _ _ _ _=>trivial
def d00:List TyG→List (List Nat)→Prop
  | T::l,d::ds=>f2k T d∧d00 l ds
  | [],[]=>True
  | _,_=>False
theorem d00.get:∀{l:List TyG} {ds:List (List Nat)},d00 l ds→∀j,j < l.length→f2k (l.getD j b9r) (ds.getD j [])∧j < ds.length
  | T::l,d::ds,h,0,_=>⟨h.1,by simp⟩
  | T::l,d::ds,h,j+1,hj=>by
    have:=d00.get h.2 j (by simpa using hj);exact ⟨this.1,by simpa using this.2⟩
  | [],[],_,j,hj=>by simp at hj
  | [],_::_,h,_,_=>h.elim
  | _::_,[],h,_,_=>h.elim
section
variable {P:Program} {L:c4f} {rg:Array Oper} {K:St→Prop} {cv:Int→Int→Blk} {n:Nat} {a0 cm:Int} {T0:TyG} {TL:List TyG}
def c5q (P:Program) (L:c4f) (rg:Array Oper) (cv:Int→Int→Blk) (n:Nat) (a0 cm:Int) (T0:TyG) (TL:List TyG):List Nat→Prop
  | []=>True
  | i::l=>(∀o,rg[i]? =some o→g19 P L rg cv n a0 cm T0 (fun j=>TL.getD j b9r) i o)∧c5q P L rg cv n a0 cm T0 TL l
theorem c5q.get:∀{l:List Nat},c5q P L rg cv n a0 cm T0 TL l→∀i∈l,∀o,rg[i]? =some o→g19 P L rg cv n a0 cm T0 (fun j=>TL.getD j b9r) i o
  | x::l,h,i,hi,o,ho=>by
    rcases qlv.1 hi with rfl | hi
    · exact h.1 o ho
    · exact h.2.get i hi o ho
theorem b9l:c5q P L rg cv n a0 cm T0 TL []:=trivial
theorem b0o (N:Nat) {i:Nat} {oi:Oper} {rest:List Oper} {l:List Nat} (h:∀env O mask a s,O[0]? =some (cv a s)→(a0≤a∧a≤a0+cm * (N:Int))→T0 O (fun x=>look x env)→(∀j,(c1z rg i).contains j=true→TL.getD j b9r O (fun x=>look x env))→
    ∀K':St→Prop,(∀s,d3p cv n env mask O a cm oi.dst (TL.getD i b9r) s→K' s)→b0x P L rg oi ⟨env,O,false,n,mask⟩ K') (t:c5q P L rg cv n a0 cm T0 TL l) (hi:rg.toList.drop i=oi::rest:=by rfl) (hN:rg.size=N:=by rfl):c5q P L rg cv n a0 cm T0 TL (i::l):=
  ⟨fun o ho=>by
    subst hN;rw [c78 hi] at ho;cases ho;exact fun env O mask a s h1 h2 h3 h4 K' k=>.inl (h env O mask a s h1 h2 h3 (fun j hj=>h4 j (qmr.1 hj)) K' k),t⟩
theorem b8j (N:Nat) {i j:Nat} {want:Bool} {oi:Oper} {rest:List Oper} {l:List Nat} (h:∀env O mask a s,O[0]? =some (cv a s)→(a0≤a∧a≤a0+cm * (N:Int))→T0 O (fun x=>look x env)→(∀j,(c1z rg i).contains j=true→TL.getD j b9r O (fun x=>look x env))→
    b01 ⟨env,O,false,n,mask⟩ rg j want=some true∧∀K':St→Prop,(∀s,d3p cv n env mask O a cm oi.dst (TL.getD i b9r) s→K' s)→b1c P L ⟨env,O,false,n,mask⟩ oi fun v s'=>K' (s'.set oi.dst (.opt true v))) (t:c5q P L rg cv n a0 cm T0 TL l) (hi:rg.toList.drop i=oi::rest:=by rfl) (hN:rg.size=N:=by rfl) (hg:oi.guard=some (j,want):=by rfl) (hd:c44 oi.dst n:=by exact qmm rfl):c5q P L rg cv n a0 cm T0 TL (i::l):=
  ⟨fun o ho=>by
    subst hN;rw [c78 hi] at ho;cases ho;exact fun env O mask a s h1 h2 h3 h4 K' k=>let q:=h env O mask a s h1 h2 h3 fun j hj=>h4 j (qmr.1 hj);.inr ⟨hd,j,want,true,hg,q.1,fun _=>q.2 K' k,nofun⟩,t⟩
theorem b8k (N:Nat) {i j d:Nat} {want:Bool} {oi:Oper} {rest:List Oper} {l:List Nat} (h:∀env O mask a s,O[0]? =some (cv a s)→(a0≤a∧a≤a0+cm * (N:Int))→T0 O (fun x=>look x env)→(∀j,(c1z rg i).contains j=true→TL.getD j b9r O (fun x=>look x env))→
    b01 ⟨env,O,false,n,mask⟩ rg j want=some false∧d3p cv n env mask O a cm (some d) (TL.getD i b9r) ⟨(d,.opt false .any)::env,O,false,n,mask⟩) (t:c5q P L rg cv n a0 cm T0 TL l) (hi:rg.toList.drop i=oi::rest:=by rfl) (hN:rg.size=N:=by rfl) (hg:oi.guard=some (j,want):=by rfl) (hdd:oi.dst=some d:=by rfl) (hd:c44 (some d) n:=by exact qmm rfl):c5q P L rg cv n a0 cm T0 TL (i::l):=
  ⟨fun o ho=>by
    subst hN;rw [c78 hi] at ho;cases ho;exact fun env O mask a s h1 h2 h3 h4 K' k=>let q:=h env O mask a s h1 h2 h3 fun j hj=>h4 j (qmr.1 hj);.inr ⟨by rw [hdd];exact hd,j,want,false,hg,q.1,nofun,fun _=>⟨.any,by rw [hdd] at k⊢;exact k _ q.2⟩⟩,t⟩
theorem d28 {m id mask:Nat} {Q:AEx→St→Prop} {O:List Blk} {a s:Int} {env} (N:Nat) (cv:Int→Int→Blk) (cm:Int) (S Rq D0:List Nat) (Dp:List (List Nat)) (T0:TyG) (TL:List TyG)
    (hc:O[0]? =some (cv a s)) (h0:f2k T0 D0) (hT:d00 TL Dp) (hs:T0 O (fun x=>look x env)) (ops:c5q P L rg cv n a cm T0 TL S)
    (tail:∀K:St→Prop,(∀s t,EqS s t→K s→K t)→(∀s,Q .normal s→K s)→∀u (listed:Array Bool) env O mask a' s',listed.size=rg.size→(∀j,j < rg.size→listed.getD j true=true→j∈S)→(∀j∈Rq,listed.getD j true=true)→(S.filter fun j=> !listed.getD j true).length=u→
      O[0]? =some (cv a' s')→(a≤a'∧a'≤a+cm * (N:Int))→T0 O (fun x=>look x env)→(∀j∈S,listed.getD j true=true→TL.getD j b9r O (fun x=>look x env))→
      b13 P L rg K (rg.size - S.length+u) listed ⟨env,O,false,n,mask⟩)
    (hm:P.follows .mixedOrders=true) (hreg:d7g rg S Rq D0 Dp=true) (hnd:S.Nodup) (hcm:0≤cm) (hl:S.all (Zp · TL.length)=true) (hle:S.length≤N) (hN:rg.size=N) :
    awp P L m (.region id rg true) Q ⟨env,O,false,n,mask⟩:=by
  subst hN;refine b1b hm fun K hK hk=> ?_
  have lt:∀j∈S,j < rg.size:=fun j hj=>by
    simp only [d7g,Zn] at hreg;have:=qlk.1 hreg.2 j hj;rw [qlg] at this;simpa using this.1
  have hno:∀j,j < rg.size→(Array.replicate rg.size false).getD j true=false:=fun j hj=>by simp [Array.getD,hj]
  have key:=d9v (P:=P) (L:=L) (rg:=rg) (K:=K) (cv:=cv) (n:=n) (a0:=a) (cm:=cm) S Rq D0 Dp (T0:=T0) (Ts:=fun j=>TL.getD j b9r) hreg hnd hcm h0
    (fun j hj=>hT.get j (by have:=qlk.1 hl j hj;simpa using this)) ops.get (fun u listed env O mask a' s' g1 g2 g3 g4 h1 h2 h3 h4=>tail K hK hk u listed env O mask a' s' g1 g2 g3 g4 h1 h2 h3 h4) S.length 0 (Array.replicate rg.size false) ⟨env,O,false,n,mask⟩
    ⟨⟨env,O,mask,a,s,rfl,hc,Int.le_refl _,by simp⟩,hs,fun j hj h=>by rw [hno j (lt j hj)] at h;(cases h),fun j hj h=>by rw [hno j (lt j hj)] at h;(cases h),by simp,fun j hj h=>by rw [hno j hj] at h;(cases h)⟩
    (by rw [List.filter_eq_self.2 (fun j hj=>by rw [hno j (lt j hj)];rfl)]) (by omega)
  rw [Nat.sub_add_cancel hle] at key;exact key
theorem b8p {N:Nat} {listed:Array Bool} {S:List Nat} (hsz:listed.size=N) (ho:∀j,j < N→listed.getD j true=true→j∈S) (hall:∀j∈S,listed.getD j true=true):listed=((Zb N).map fun j=>S.contains j).toArray:=by
  apply Array.ext
  · simp [hsz]
  · intro j h1 _
    have hj:j < N:=by rw [←hsz];exact h1
    have e1:listed.getD j true=listed[j]:=by simp [Array.getD,h1]
    simp only [List.getElem_toArray,List.getElem_map,List.getElem_range];rw [←e1];cases q:listed.getD j true with
    | true=>exact (by simpa using ho j hj q)
    | false=>
      by_cases m:j∈S
      · rw [hall j m] at q;cases q
      · simp [m]
section
variable {m:Nat} {Q:AEx→St→Prop} {id:Nat} {env:List (Nat×V)} {O:List Blk} {mask:Nat} {a s:Int} (N:Nat) (cv:Int→Int→Blk) (cm:Int)
include N cv cm
theorem c6a (S D0:List Nat) (Dp:List (List Nat)) (T0:TyG) (TL:List TyG)
    (hc:O[0]? =some (cv a s)) (h0:f2k T0 D0) (hT:d00 TL Dp) (hs:T0 O (fun x=>look x env)) (ops:c5q P L rg cv n a cm T0 TL S)
    (tail:∀K:St→Prop,(∀s t,EqS s t→K s→K t)→(∀s,Q .normal s→K s)→∀env O mask a' s',O[0]? =some (cv a' s')→(a≤a'∧a'≤a+cm * (N:Int))→T0 O (fun x=>look x env)→(∀j,S.contains j=true→TL.getD j b9r O (fun x=>look x env))→
      b13 P L rg K (N - S.length) ((List.range N).map fun j=>S.contains j).toArray ⟨env,O,false,n,mask⟩)
    (hm:P.follows .mixedOrders=true:=by kernel_rfl) (hreg:d7g rg S S D0 Dp=true:=by kernel_rfl) (hnd:S.Nodup:=by decide) (hcm:0≤cm:=by decide) (hl:S.all (Nat.blt · TL.length)=true:=by rfl) (hle:S.length≤N:=by decide) (hN:rg.size=N:=by rfl) :
    awp P L m (.region id rg true) Q ⟨env,O,false,n,mask⟩:=by
  refine d28 N cv cm S S D0 Dp T0 TL hc h0 hT hs ops (fun K hK hk u listed env O mask a' s' g1 g2 g3 g4 h1 h2 h3 h4=> ?_) hm hreg hnd hcm hl hle hN;have e:=b8p g1 g2 g3;have e0:u=0:=by
    rw [←g4,qlt,List.filter_eq_nil_iff];intro j hj;simp [g3 j hj]
  subst e0;rw [hN] at e⊢;rw [e];exact tail K hK hk env O mask a' s' h1 h2 h3 fun j hj=>h4 j (qmr.1 hj) (g3 j (qmr.1 hj))
theorem d3e (f:Nat) (S D0:List Nat) (Dp:List (List Nat)) (T0:TyG) (TL:List TyG)
    (hc:O[0]? =some (cv a s)) (h0:f2k T0 D0) (hT:d00 TL Dp) (hs:T0 O (fun x=>look x env)) (ops:c5q P L rg cv n a cm T0 TL (f::S))
    (tail:∀K:St→Prop,(∀s t,EqS s t→K s→K t)→(∀s,Q .normal s→K s)→∀env O mask a' s',O[0]? =some (cv a' s')→(a≤a'∧a'≤a+cm * (N:Int))→T0 O (fun x=>look x env)→(∀j,S.contains j=true→TL.getD j b9r O (fun x=>look x env))→
      (TL.getD f b9r O (fun x=>look x env)→b13 P L rg K (N - (S.length+1)) ((List.range N).map fun j=>(f::S).contains j).toArray ⟨env,O,false,n,mask⟩)∧b13 P L rg K (N - (S.length+1)+1) ((List.range N).map fun j=>S.contains j).toArray ⟨env,O,false,n,mask⟩)
    (hm:P.follows .mixedOrders=true:=by kernel_rfl) (hreg:d7g rg (f::S) S D0 Dp=true:=by kernel_rfl) (hnd:(f::S).Nodup:=by decide) (hcm:0≤cm:=by decide) (hl:(f::S).all (Nat.blt · TL.length)=true:=by rfl) (hle:(f::S).length≤N:=by decide) (hN:rg.size=N:=by rfl) :
    awp P L m (.region id rg true) Q ⟨env,O,false,n,mask⟩:=by
  refine d28 N cv cm (f::S) S D0 Dp T0 TL hc h0 hT hs ops (fun K hK hk u listed env O mask a' s' g1 g2 g3 g4 h1 h2 h3 h4=> ?_) hm hreg hnd hcm hl hle hN;have ht:=tail K hK hk env O mask a' s' h1 h2 h3 fun j hj=>h4 j (qlq _ (qmr.1 hj)) (g3 j (qmr.1 hj))
  have hS:(S.filter fun j=> !listed.getD j true)=[]:=by
    rw [List.filter_eq_nil_iff];intro j hj;simp [g3 j hj]
  rw [hN] at g1 g2⊢;rw [qms,hS] at g4;cases q:listed.getD f true with
  | true=>
    rw [q] at g4;have e0:u=0:=by rw [←g4];rfl
    subst e0;rw [b8p g1 g2 fun j hj=>by
      rcases qlv.1 hj with rfl | hj
      · exact q
      · exact g3 j hj]
    exact ht.1 (h4 f (qlp ..) q)
  | false=>
    rw [q] at g4;have e0:u=1:=by rw [←g4];rfl
    subst e0;rw [b8p g1 (fun j hj hlx=>by
      rcases qlv.1 (g2 j hj hlx) with e | hj
      · rw [e,q] at hlx;cases hlx
      · exact hj) g3]
    exact ht.2
end
theorem b17 {mask d:Nat} {O:List Blk} {a s cm:Int} {T:TyG} {env v} (hc:O[0]? =some (cv a s)) (hcm:0≤cm) (h:T O (fun x=>look x ((d,v)::env))):d3p cv n env mask O a cm (some d) T ⟨(d,v)::env,O,false,n,mask⟩:=
  ⟨v,O,a,s,rfl,c36.refl _,hc,Int.le_refl _,by omega,h⟩
theorem c1b {mask d:Nat} {O:List Blk} {a s cm:Int} {T:TyG} {env new v} (hc:O[0]? =some (cv a s)) (hcm:0≤cm) (h:T (O++new) (fun x=>look x ((d,v)::env))):d3p cv n env mask O a cm (some d) T ⟨(d,v)::env,O++new,false,n,mask⟩:=
  ⟨v,O++new,a,s,rfl,c36.app,Grow.app O new 0 _ hc,Int.le_refl _,by omega,h⟩
theorem g10 {O:List Blk} {b c} (hc:O[0]? =some b):(O.set 0 c)[0]? =some c:=by
  rw [qlf (qlc.1 hc).1]
theorem c6k {mask d:Nat} {O:List Blk} {a s a' s' cm:Int} {T:TyG} {env v} (hc:O[0]? =some (cv a s)) (hb:a≤a'∧a'≤a+cm) (h:T (O.set 0 (cv a' s')) (fun x=>look x ((d,v)::env))):d3p cv n env mask O a cm (some d) T ⟨(d,v)::env,O.set 0 (cv a' s'),false,n,mask⟩:=
  ⟨v,_,a',s',rfl,by have:=c36.set0 (O:=O) (new:=[]) (b:=cv a' s');simpa using this,g10 hc,hb.1,hb.2,h⟩
theorem g2f {mask d:Nat} {O:List Blk} {a s a' s' cm:Int} {T:TyG} {env new v} (hc:O[0]? =some (cv a s)) (hb:a≤a'∧a'≤a+cm) (h:T (O.set 0 (cv a' s')++new) (fun x=>look x ((d,v)::env))):d3p cv n env mask O a cm (some d) T ⟨(d,v)::env,O.set 0 (cv a' s')++new,false,n,mask⟩:=
  ⟨v,_,a',s',rfl,c36.set0,Grow.app _ new 0 _ (g10 hc),hb.1,hb.2,h⟩
theorem f6f {mask d i:Nat} {O:List Blk} {a s a' s' cm:Int} {T:TyG} {env b v} (hc:O[0]? =some (cv a s)) (hi:O[i]? =some b) (hn:i≠0) (hb:a≤a'∧a'≤a+cm) (h:T ((O.set 0 (cv a' s')).set i b) (fun x=>look x ((d,v)::env))):d3p cv n env mask O a cm (some d) T ⟨(d,v)::env,(O.set 0 (cv a' s')).set i b,false,n,mask⟩:=
  ⟨v,_,a',s',rfl,by have:=c36.set1 (O:=O) (new:=[]) (b:=cv a' s') hi;simpa using this,by rw [qld hn];exact g10 hc,hb.1,hb.2,h⟩
end
mutual
theorem d76 {f g:Nat→Nat}:∀v:V,(v.ren f).ren g=v.ren (fun i=>g (f i))
  | .int _ _ | .bool _ | .str _ | .nsl | .sl _ | .pv _ _ _ | .npt | .nfn | .any | .ref _ | .sub _ _ _ | .ptr _ _ _=>by simp only [Zr]
  | .fn _ cs=>by simp only [Zr,c4q cs]
  | .agg cs=>by simp only [Zr,c4q cs]
  | .tup cs=>by simp only [Zr,c4q cs]
  | .opt _ v=>by simp only [Zr,d76 v]
theorem c4q {f g:Nat→Nat}:∀l:List V,Zf g (Zf f l)=Zf (fun i=>g (f i)) l
  | []=>by simp only [Zf]
  | v::l=>by simp only [Zf,d76 v,c4q l]
end
mutual
theorem c8o {f:Nat→Nat} {p q:Nat→Bool} (h:∀i,p i=true→q (f i)=true):∀v:V,v.only p=true→(v.ren f).only q=true
  | .int _ _,_ | .bool _,_ | .str _,_ | .nsl,_ | .sl _,_ | .pv _ _ _,_ | .npt,_ | .nfn,_ | .any,_=>by simp [Zr,Zt]
  | .ref i,hp | .sub i _ _,hp | .ptr i _ _,hp=>by rw [Zt] at hp;rw [Zr,Zt];exact h i hp
  | .fn _ cs,hp | .agg cs,hp | .tup cs,hp=>by rw [Zt] at hp;rw [Zr,Zt];exact c9f h cs hp
  | .opt _ v,hp=>by rw [Zt] at hp;rw [Zr,Zt];exact c8o h v hp
theorem c9f {f:Nat→Nat} {p q:Nat→Bool} (h:∀i,p i=true→q (f i)=true):∀l:List V,Zc p l=true→Zc q (Zf f l)=true
  | [],_=>by simp only [Zf,Zc]
  | v::l,hp=>by
    rw [Zc,qlg] at hp;rw [Zf,Zc,c8o h v hp.1,c9f h l hp.2];rfl
end
def b9m (ρ:Nat→Nat) (O:List Blk):List Nat→List Blk→Prop
  | i::is,b::bs=>O[i]? =some (b.renM ρ)∧b9m ρ O is bs
  | [],[]=>True
  | _,_=>False
theorem b9m.get {ρ:Nat→Nat} {O:List Blk}:∀{is:List Nat} {bs:List Blk},b9m ρ O is bs→∀j b,bs[j]? =some b→O[is.getD j 0]? =some (b.renM ρ)
  | i::is,b::bs,h,0,c,e=>by simp at e;subst e;exact h.1
  | i::is,b::bs,h,j+1,c,e=>by
    have:=b9m.get h.2 j c (by simpa using e);simpa using this
  | [],[],_,j,c,e=>by simp at e
  | _::_,[],h,_,_,_=>h.elim
  | [],_::_,h,_,_,_=>h.elim
theorem g31 {m x:Nat} {s:St}:b44 m s {s with mask:=x}:=fun _ _ _ μ ow _ h=>⟨μ,ow,h.dfr,h.sz,h.env,h.blk,h.dom,h.owl,h.own,h.frm,h.mu⟩
theorem b5r {m n mask mask':Nat} {vw:Bool} {env O} (env':List (Nat×V)) (O':List Blk) (ids:List Nat) (hn:ids.Nodup) (hm:∀j,j < m→ids[j]? =some j) (hl:O'.length=ids.length)
    (he:∀p∈env',look p.1 env=p.2.ren (fun j=>ids.getD j 0)) (hk:(env'.map (·.1)).Nodup) (ho:∀p∈env',p.2.only (Zp · ids.length)=true)
    (hba:b9m (fun j=>ids.getD j 0) O ids O') (hbo:∀b∈O',b.onlyM (Zp · ids.length)=true):b44 m ⟨env,O,vw,n,mask⟩ ⟨env',O',vw,n,mask'⟩:=by
  refine b0m ?_ (g31 (s:=⟨env',O',vw,n,mask⟩));have hb:=hba.get;have inv:∀j,Zp j ids.length=true→(idx ids (ids.getD j 0)).getD 0=j∧(idx ids (ids.getD j 0)).isSome=true:=fun j hj=>by
    have hj':j < ids.length:=by simpa using hj
    have e:ids[j]? =some (ids.getD j 0):=by simp [Zg,hj']
    rw [c6n hn e];exact ⟨rfl,rfl⟩
  have back:∀v:V,v.only (Zp · ids.length)=true→(v.ren fun j=>ids.getD j 0).ren (fun id=>(idx ids id).getD 0)=v:=fun v hv=>by
    rw [d76];exact b7a (fun j hj=>(inv j hj).1) hv
  have backL:∀l:List V,Zc (Zp · ids.length) l=true→Zf (fun id=>(idx ids id).getD 0) (Zf (fun j=>ids.getD j 0) l)=l:=fun l hv=>by
    rw [c4q];exact c1n (fun j hj=>(inv j hj).1) hv
  have hO:∀id∈ids,∃j b,ids.getD j 0=id∧O'[j]? =some b∧O[id]? =some (b.renM fun j=>ids.getD j 0):=fun id hid=>by
    obtain ⟨j,hj,e⟩:=List.getElem_of_mem hid;have ej:ids.getD j 0=id:=by simp [Zg,hj,e]
    have hb':=hb j O'[j] (qla (by omega));exact ⟨j,_,ej,qla (by omega),by rw [←ej];exact hb'⟩
  refine c2v (env'.map (·.1)) ids hn hm (fun p hp=> ?_) (fun id hid bk e=> ?_) ?_
  · simp only [St.keep,Z7] at hp
    obtain ⟨x,⟨q,hq,rfl⟩,rfl⟩:=hp;show (look q.1 env).only _=true;rw [he q hq];exact c8o (fun j hj=>(inv j hj).2) _ (ho q hq)
  · obtain ⟨j,b,e1,e2,e3⟩:=hO id hid
    rw [show O[id]? =some bk from e] at e3;obtain rfl:=Option.some.inj e3;have hbb:=hbo b (qlb e2);cases b with
    | dead=>rfl
    | arr xs k=>
      simp only [Blk.renM,Blk.onlyM,Ze,Zd] at hbb⊢;rcases hbb with q | q
      · exact .inl q
      · cases hk:k.isMix with
        | false=>exact .inl rfl
        | true=>exact .inr (c9f (fun j hj=>(inv j hj).2) _ q)
    | box x k=>
      simp only [Blk.renM,Blk.onlyM,Ze,Zd] at hbb⊢;rcases hbb with q | q
      · exact .inl q
      · cases hk:k.isMix with
        | false=>exact .inl rfl
        | true=>exact .inr (c8o (fun j hj=>(inv j hj).2) _ q)
  · have h1 : ((env'.map (·.1)).map fun t=>(t,look t env)).map (fun p=>(p.1,p.2.ren fun id=>(idx ids id).getD 0))=env':=by
      rw [List.map_map,List.map_map];refine (List.map_congr_left fun p hp=> ?_).trans (List.map_id env');show (p.1,(look p.1 env).ren _)=p;rw [he p hp,back _ (ho p hp)]
    have h2 : (ids.map fun id=>(O.getD id .dead).renM fun id=>(idx ids id).getD 0)=O':=by
      apply Zs;intro j;rw [qma];rcases qmk j ids.length with hj | hj
      · have e2:O'[j]? =some O'[j]:=qla (by omega)
        have hb':=hb j _ e2;have e:ids[j]? =some (ids.getD j 0):=by simp [Zg,hj]
        rw [e,e2,qmv,qlo,hb'];have hbb:=hbo O'[j] (List.getElem_mem (by omega))
        congr 1
        generalize O'[j]=b at hbb;cases b with
        | dead=>rfl
        | arr xs k=>
          simp only [Zw,Blk.renM,Blk.onlyM,Ze,Zd] at hbb⊢;cases hk:k.isMix with
          | false=>rfl
          | true=>
            rcases hbb with q | q
            · rw [hk] at q;cases q
            · simp only [cond_true];rw [backL _ q]
        | box x k=>
          simp only [Zw,Blk.renM,Blk.onlyM,Ze,Zd] at hbb⊢;cases hk:k.isMix with
          | false=>rfl
          | true=>
            rcases hbb with q | q
            · rw [hk] at q;cases q
            · simp only [cond_true];rw [back _ q]
      · rw [Zm hj,Zm (by omega)];rfl
    have e:∀(a a':List (Nat×V)) (b b':List Blk),a=a'→b=b'→(⟨a,b,vw,n,mask⟩:St)=⟨a',b',vw,n,mask⟩:=by intros;subst_vars;rfl
    exact e _ _ _ _ h1 h2
theorem new_at {O new:List Blk} {b} (k:Nat) (h:new[k]? =some b):(O++new)[O.length+k]? =some b:=by
  rw [qli (by omega),Nat.add_sub_cancel_left];exact h
theorem b4x {O:List Blk} {k:Nat} {b} (h:O[k]? =some b):k+1≤O.length:=(qlc.1 h).1
theorem b31 {O:List Blk} {i j:Nat} {b c} (h1:O[i]? =some b) (h2:O[j]? =some c) (h:b≠c):i≠j:=fun e=>h (by rw [e,h2] at h1;exact (Option.some.inj h1).symm)
theorem d9m {a b:Nat} (h:a≠b):Z8 a b=false:=by
  cases q:Z8 a b with
  | false=>rfl
  | true=>exact absurd (Zj q) h
end Go.Vm
namespace Go.Vm
open Go
theorem zPs {A B:Prop} (e:Ho B→A:=by
  intro b;apply b33 rfl rfl rfl
  · first | rfl | (simp only [zV,b01,Nat.reduceEqDiff,reduceIte];done)
  simp only [zW,b0j,Nat.reduceEqDiff,reduceIte];exact b.h) (b:B):A:=e ⟨b⟩
theorem ztc {C A B:Prop} (con:C) (e:C→Ho B→A:=by
  intro con b;apply g14 _ _ rfl (by first | rfl | (simp only [zV,b01,Nat.reduceEqDiff,reduceIte];done)) (qmm rfl);intro K k;simp only [zE,zM,b0x,b0s,b0j,Nat.reduceEqDiff,reduceIte,Nat.reduceLT,implies_true,forall_const,reduceCtorEq,V.ofValue,V.ofScalar,V.un,V.gd,b1c,b3x,b4q,‹Tys _›.h,‹Fc _›.h];repeat (refine d43 ?_)
  refine b7h con (by first | rfl | (simp only [b1u,b2y,b1o,b1d,b2i,Option.map_some,idx,b1k,List.getElem?_cons_zero,List.getElem?_cons_succ,Option.bind_some,Blk.row,b02,b1m,b10,b1x,b1y,b1z,cond_true,List.map_take];done) | (simp [b1u,b2y,b1o,b1d,b2i,idx,b1k,Blk.row,b02,b1m,b10,b1x,b1y,b1z,Nat.beq_refl];done)) (by first | exact .inl ⟨rfl,by simp [Blk.kindIs,b4c,b7i]⟩ | exact .inr (by simp [V.cold])) ?_;apply k _;clear k K;simp only [zY,zW,b0j,Nat.reduceEqDiff,reduceIte,V.ren,V.renL,rho,Nat.reduceAdd];exact b.h) (b:B):A:=e con ⟨b⟩
theorem d2v {s:St} {o:Oper} {j:Nat} {want G:Bool} {f:FuncId} {bk:Blk} {R:V→List Blk→Prop} {X K:St→Prop} {P L rg args args'} (k:∀s,X s→K s) (hc:b76 P f args' [bk] R) (hsame:∃r,R r [bk])
    (h:∀r O',R r O'→∃bk',O'=[bk']∧(r.clean=true∧r.only (fun _=>false)=true∧bk'.kindIs (fun k=>k.nm)=true∧(bk'.kindIs (fun k=>k != .shal && k.nm)=true∨∀x∈args,x.coldIn [0]=true))∧X (({s with O:=s.O.set 0 bk'}:St).set o.dst (.opt G r)))
    (hg:o.guard=some (j,want):=by rfl) (hv:b01 s rg j want=some G:=by first | rfl | (simp only [zV,b01,Nat.reduceEqDiff,reduceIte];done)) (hd:c44 o.dst s.n:=by exact qmm rfl)
    (he:G=true→∀F:V→St→Prop,b9g P s f [0] args F→b1c P L s o F:=by
      intro hG F hF;simp only [zE,zM,b0x,b0s,b0j,Nat.reduceEqDiff,reduceIte,Nat.reduceLT,implies_true,forall_const,reduceCtorEq,V.ofValue,V.ofScalar,V.un,V.gd,b1c,b3x,b4q,‹Tys _›.h,‹Fc _›.h];first | exact hF | exact ⟨by simpa using hG,hF⟩ | (refine ⟨?_,hF⟩;simp_all;done))
    (ht:b1u s [0] args=some args':=by rfl) (hO:s.O[0]? =some bk:=by rfl) (hbk:bk.kindIs (fun k=>k.nm)=true∧bk≠.dead:=by exact ⟨by simp [Blk.kindIs,b02,b1m],by simp⟩) (hw:s.vw=false∨bk.kindIs (fun k=>k == .flat)=true:=by exact .inl rfl) :
    c44 o.dst s.n∧∃j want G,o.guard=some (j,want)∧b01 s rg j want=some G∧(G=true→b1c P L s o fun v s'=>K (s'.set o.dst (.opt true v)))∧(G=false→∃v,K (s.set o.dst (.opt false v))):=
  d52 j want hd hg hv (fun _=>hc) he hsame ht hO hbk hw fun r O' q=>(h r O' q).imp fun _ h=>⟨h.1,h.2.1,k _ h.2.2⟩
theorem zgx {f:FuncId} {R:V→List Blk→Prop} {A B:Prop} {P args' bk} (con:b76 P f args' [bk] R) (same:∃r,R r [bk]) (e:b76 P f args' [bk] R→(∃r,R r [bk])→Ho B→A:=by
  intro con same b;apply g1t;intro _ k;exact d2v k con same b.h) (b:B):A:=e con same ⟨b⟩
theorem zEg {A B:Prop} (e:Ho B→A:=by
  intro b;refine ⟨_,rfl,⟨rfl,rfl,by simp [Blk.kindIs,b02,b1m],.inr (qlk.1 rfl)⟩,?_⟩;simp only [zW,b0j,Nat.reduceEqDiff,reduceIte,List.set_cons_zero,List.set_cons_succ];exact b.h) (b:B):A:=e ⟨b⟩
end Go.Vm
