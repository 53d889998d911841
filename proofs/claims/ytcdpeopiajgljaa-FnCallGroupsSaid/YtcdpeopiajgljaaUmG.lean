/- The value machine, part 7. -/
import Derived.Sort.Grow
import Derived.Lib.LaidTab
import Derived.Lib.Join
import Derived.Below
import Derived.Deep.Draws
import Derived.Test.YtcdpeopiajgljaaUmF
set_option linter.unusedSimpArgs false
set_option linter.unusedVariables false
set_option linter.defProp false
namespace Go.Vm
open Go
section
variable {α:Type} {f:α→V}
end
end Go.Vm
namespace Go.Vm
open Go
end Go.Vm
namespace Go.Vm
open Go
theorem rep_ints {w:World} {μ:Nat→Option Loc}:∀(ns:List Int) {vs:List Value} {bl:List Nat},RepL w μ ((ns.map (V.int .i64)).flatMap V.cells) vs bl→vs=ns.map (Value.int .i64)
  | [],vs,bl,h=>by cases h;rfl
  | n ::ns,vs,bl,h=>by
    simp only [List.map_cons,List.flatMap_cons,V.cells,List.cons_append,List.nil_append] at h
    cases h with
    | cons _ x bl _ xs bl' h1 h2=>
      have:=rep_ints ns h2
      rw [this,h1.int_inv];rfl
theorem ints_rep {w:World} {μ:Nat→Option Loc}:∀ns:List Int,RepL w μ ((ns.map (V.int .i64)).flatMap V.cells) (ns.map (Value.int .i64)) []
  | []=>.nil
  | n::ns=>by
    simp only [List.map_cons,List.flatMap_cons,V.cells,List.cons_append,List.nil_append]
    exact .cons _ _ [] _ _ [] (.int _ _) (ints_rep ns)
def sortL (zs:List Int):List Int:=zs.mergeSort fun x y=>decide (x≤y)
theorem sortL_len (zs:List Int):(sortL zs).length=zs.length:=List.length_mergeSort ..
theorem con_sort {P:Program} {f:FuncId} (zs:List Int) (hf:∃fn,P.funcs[f]? =some fn∧(fn.name == "runtime.NumGoroutine")=false∧fn.body.isNone=false) (hne:zs≠[])
    (h:∀(blk off cap:Nat) (w:World),Sort.Holds (Value.int .i64) w blk off zs.toArray→blk < w.heap.size→Calls P f #[.slice (some ⟨blk,off,none⟩) zs.length cap] w fun e w'=>
      e=.returned (.tuple #[])∧∃n os,w'=Sort.grow (Sort.putRow (Value.int .i64) (Sort.ahead w n) blk off (sortL zs).toArray) os) :
    Con P f [.ref 0] [.arr (zs.map (V.int .i64)) .flat] (.tup []) [.arr ((sortL zs).map (V.int .i64)) .flat]:=by
  refine ⟨hf,fun w vals μ ow vis hi=> ?_⟩
  obtain ⟨l,hl,hn,h3⟩:=hi.blk 0 _ rfl
  rcases h3 with ⟨_,h3⟩ | ⟨hreal,hroot,bl,⟨c1,c2,c3,c,t,vs,c4,c5,c6,c7,c8⟩,hk,hne'⟩
  · exact absurd (by simpa using h3) hne
  have hbl:bl=[]:=hk
  subst hbl
  have hvs:=rep_ints zs c6
  subst hvs
  have hsz:l.sz=1:=by
    obtain ⟨z,hz⟩:=List.exists_mem_of_ne_nil _ hne
    have:=c3 (.int .i64 z) (List.mem_map.2 ⟨z,hz,rfl⟩)
    exact this.symm
  have hn':l.n=zs.length:=by simpa using hn
  have h0:vals.getD 0 undef=.slice (some ⟨l.b,l.off,none⟩) zs.length l.cap:=by
    obtain ⟨b0,r0,_⟩:=hi.arg 0 _ rfl
    generalize vals.getD 0 undef=x at r0⊢
    cases r0 with
    | ref _ l2 _ hm hd=>
      rw [hl] at hm
      cases hm
      rw [←hn']
      cases hd with
      | real _=>rfl
      | nil a hr _=>rw [hreal] at hr;cases hr
  have hv:vals=#[.slice (some ⟨l.b,l.off,none⟩) zs.length l.cap]:=by
    have hs:vals.size=1:=hi.sz
    apply Array.ext
    · simpa using hs
    · intro i hi1 hi2
      have:i=0:=by simp at hi2;exact hi2
      subst this
      have e:vals.getD 0 undef=vals[0]:=by simp [Array.getD,hi1]
      rw [←e,h0];rfl
  subst hv
  have hlt:l.b < w.heap.size:=by
    rcases Nat.lt_or_ge l.b w.heap.size with q | q
    · exact q
    · rw [Array.getElem?_eq_none q] at c4;cases c4
  have hH:Sort.Holds (Value.int .i64) w l.b l.off zs.toArray:=by
    intro j hj
    have hj':j < zs.length:=by simpa using hj
    refine ⟨?_,by simp [World.frozen?,c4]⟩
    rw [cell_of_row w l.b _ c t _ c4,c8 j (.int .i64 zs[j]) (by simp [hj'])]
    congr 2
    simp [hj']
  refine (h l.b l.off l.cap w hH hlt).mono ?_
  rintro e w' ⟨rfl,n,os,rfl⟩
  let enc:Int→Value:=Value.int .i64
  let d:=(sortL zs).toArray
  have hother:∀b,b < w.heap.size→b≠l.b→(Sort.grow (Sort.putRow enc (Sort.ahead w n) l.b l.off d) os).heap[b]? =w.heap[b]? :=by
    intro b hb hne
    rw [Sort.heap_grow_old _ _ (by simpa using hb)]
    simp [Sort.putRow,Sort.mapBlock,Array.getElem?_modify,Ne.symm hne]
  have hself:(Sort.grow (Sort.putRow enc (Sort.ahead w n) l.b l.off d) os).heap[l.b]? =some (.cells (Sort.putCells enc l.off d c) t (0,0)):=by
    rw [Sort.heap_grow_old _ _ (by simpa using hlt)]
    simp [Sort.putRow,Sort.mapBlock,Array.getElem?_modify,c4,Sort.onCells]
  have hrow:RowOK ⟨w,fun b=>ow b≠none,vis,μ,[]⟩ (Sort.grow (Sort.putRow enc (Sort.ahead w n) l.b l.off d) os) μ ow false 0 ((sortL zs).map (V.int .i64)) .flat:=by
    refine ⟨l,hl,by rw [List.length_map,sortL_len];exact hn',.inr ⟨hreal,hroot,[],⟨c1,c2,?_,Sort.putCells enc l.off d c,t,(sortL zs).map (Value.int .i64),hself,?_,ints_rep _,?_,?_⟩,rfl,fun _ e=>by
      have:=congrArg List.length e
      rw [List.length_map,sortL_len] at this
      exact hne (List.length_eq_zero_iff.1 this)⟩⟩
    · intro x hx
      obtain ⟨z,_,rfl⟩:=List.mem_map.1 hx
      rw [hsz];rfl
    · simpa [Sort.putCells] using c5
    · intro v hv
      obtain ⟨z,_,rfl⟩:=List.mem_map.1 hv
      rfl
    · intro j x hj
      have hjl:j < (sortL zs).length:=by
        rcases Nat.lt_or_ge j (sortL zs).length with q | q
        · exact q
        · rw [List.getElem?_eq_none (by simpa using q)] at hj;cases hj
      have hx:x=.int .i64 (sortL zs)[j]:=by simpa [hjl,eq_comm] using hj
      have hjz:j < zs.length:=by rw [←sortL_len];exact hjl
      have hc:=c8 j (.int .i64 zs[j]) (by simp [hjz])
      rw [Sort.putCells,Array.getElem?_mapIdx,hc,Option.map_some,if_pos ⟨by omega,by simpa [d] using hjl⟩,hx]
      have:l.off+j - l.off=j:=by omega
      rw [this]
      simp [enc,d,hjl]
  refine ⟨_,μ,ow,rfl,⟨⟨[],.tup [] [] [] .nil,by simp⟩,fun id bk e=> ?_,?_,MLe.refl _,Nat.le_refl _,fun id hid=>hi.dom id hid,fun b hb=> ?_,fun b hb=>.inl hb,⟨?_,fun b hb hno=> ?_,rfl,rfl,rfl,fun x hx=> ?_,fun _ hp=>nomatch hp⟩⟩⟩
  · cases id with
    | zero=>
      simp only [List.getElem?_cons_zero,Option.some.injEq] at e
      subst e
      exact hrow
    | succ id=>simp at e
  · intro bk hb
    rw [List.mem_singleton] at hb
    subst hb
    rfl
  · by_cases q:b=l.b
    · subst q;exact ⟨_,_,hself⟩
    · exact (hi.owl b hb).keep (hother b (hi.owl b hb).lt q)
  · show w.heap.size≤_
    simp
  · refine hother b hb fun q=>hno ?_
    show ow b≠none
    rw [q,hroot];simp
  · have hx':x.block < w.heap.size:=hx
    rw [Sort.frozen?_grow _ _ _ (by simpa using hx'),Sort.frozen?_putRow,Sort.frozen?_ahead]
end Go.Vm
namespace Go.Vm
open Go
theorem fillK_thin (i:Nat):(fillK i≠.thin)=True:=by unfold fillK;split<;>simp
theorem weak_view {m:Nat} {s:St}:Weak m s {s with vw:=true}:=fun cx a w μ ow hmu h=>
  ⟨μ,ow,⟨h.dfr,h.sz,fun t=>by
    obtain ⟨bl,r1,r2⟩:=h.env t
    exact ⟨bl,r1,fun b hb=>(r2 b hb).mono rfl (fun _=>rfl)⟩,fun id bk e=>(h.blk id bk e).keep (MLe.refl μ) (fun _=>rfl) (fun b _ _=>⟨rfl,rfl⟩),h.dom,h.owl,h.own,h.frm,h.mu⟩⟩
def atSlot (t:Nat) (v:V) (l:List (Nat×V)):List (Nat×V):=l.map fun p=>if p.1=t then (p.1,v) else p
theorem atSlot_cons (t k:Nat) (v x:V) (l:List (Nat×V)):atSlot t v ((k,x)::l)=(if k=t then (k,v) else (k,x))::atSlot t v l:=rfl
theorem atSlot_nil (t:Nat) (v:V):atSlot t v []=[]:=rfl
theorem ret_refK {s:St} {k:Nat} {xs ys:List V} {kd:Kd} (hO:s.O[k]? =some (.arr xs kd)) (hk:(kd != .shal && kd.nm)=true) (e:xs=ys):RetOK 0 s (.ref k) (.ref 0) [.arr ys kd]:=by
  subst e
  have hf:(refsOf (.ref k)).filter (fun id=>Nat.ble 0 id)=[k]:=by simp [refsOf,refs2,refs1]
  unfold RetOK
  simp only [hf]
  simp only [Bool.and_eq_true] at hk
  refine ⟨⟨by simp [V.only,idx],by simp,Nat.zero_le _⟩,by simp [V.ren,outNo,idx],by simp [hO],?_,.inr ⟨by simp [V.clean,V.noSl],?_⟩⟩
  · intro bk hb
    rw [List.mem_singleton] at hb
    subst hb
    exact hk.2
  · intro bk hb
    rw [List.mem_singleton] at hb
    subst hb
    show (kd != .shal && kd.nm)=true
    rw [hk.1,hk.2];rfl
theorem Con.thin {P:Program} {f:FuncId} {args:List V} {r:V} {xs:List V} (h:Con P f args [] r [.arr xs .flat]):Con P f args [] r [.arr xs .thin]:=by
  refine ⟨h.1,fun w vals μ ow vis hi=>(h.2 w vals μ ow vis hi).mono ?_⟩
  rintro e w' ⟨v,μ',ow',he,hout⟩
  refine ⟨v,μ',ow',he,hout.rep,fun id bk hb=> ?_,?_,hout.same,hout.len,hout.dom,hout.owl,hout.own,hout.frm⟩
  · cases id with
    | zero=>
      simp only [List.getElem?_cons_zero,Option.some.injEq] at hb
      subst hb
      obtain ⟨l,q1,q2,q3⟩:=hout.blk 0 (.arr xs .flat) rfl
      refine ⟨l,q1,q2,?_⟩
      rcases q3 with q3 | ⟨q3,q4,bl,q5,q6,q7⟩
      · exact .inl q3
      · exact .inr ⟨q3,q4,bl,q5,q6,fun q=>absurd rfl q⟩
    | succ n=>simp at hb
  · intro bk hb
    rw [List.mem_singleton] at hb
    subst hb
    rfl
theorem join_t:kdJoin .thin false false=some .thin:=rfl
theorem thin_mix:Kd.thin.nm=true:=rfl
theorem shal_mix:Kd.shal.nm=true:=rfl
structure Caps (caps:List V):Prop where
  cc:∀s ls,toCells s ls caps=some caps
  ca:∀s,toArgs s [] caps=some caps
  cn:∀p,V.onlyL p caps=true
  cr:∀ρ,V.renL ρ caps=caps
theorem Caps.nil:Caps []:=⟨fun _ _=>rfl,fun _=>rfl,fun _=>by simp [V.onlyL],fun _=>rfl⟩
theorem Caps.pv {caps:List V} (xs:List V) (h:Caps caps):Caps (.pv xs 0 0::caps):=
  ⟨fun s ls=>by simp [toCells,toCell,h.cc],fun s=>by simp [toArgs,toArg,toCell,h.ca],fun p=>by simp [V.onlyL,V.only,h.cn],fun ρ=>by simp [V.renL,V.ren,h.cr]⟩
theorem rho_one (id n:Nat):rho [id] n 0=id:=rfl
theorem beq_dec (m n:Nat):Nat.beq m n=decide (m=n):=by
  cases h:Nat.beq m n with
  | true=>rw [decide_eq_true (Nat.eq_of_beq_eq_true h)]
  | false=>rw [decide_eq_false fun e=>by rw [e,Nat.beq_refl] at h;cases h]
end Go.Vm
namespace Go.Vm
open Go
def SameShape (bk bk':Blk) (xs xs':List V) (k k':Kd):Prop:=
  (bk=.arr xs k∧bk'=.arr xs' k')∨(∃x x',bk=.box x k∧bk'=.box x' k'∧xs=[x]∧xs'=[x'])
theorem SameShape.ok {bk bk':Blk} {xs xs':List V} {k k':Kd} (h:SameShape bk bk' xs xs' k k') {cx:Cx} {w:World} {μ:Nat→Option Loc} {ow:Ow} {vw:Bool} {id:Nat} (hb:BlkOK cx w μ ow vw id bk):RowOK cx w μ ow vw id xs k:=by
  rcases h with ⟨rfl,_⟩ | ⟨x,x',rfl,_,rfl,_⟩<;>exact hb
theorem VOK.move {cx:Cx} {ow:Ow} {vw:Bool} {ids:List Nat} {id b:Nat} (h:VOK cx ow vw b):VOK cx (moveOw ow ids id) vw b:=
  ⟨h.1.imp moveOw_none fun ⟨q,_,e⟩=>⟨q,moveOw_false e⟩,h.2⟩
def Wk (c c':V):Prop:=c'=c∨(c=.nsl∧c'=.sl [])∨c'=.any
def WkL:List V→List V→Prop
  | [],[]=>True
  | c::cs,c'::cs'=>Wk c c'∧WkL cs cs'
  | _,_=>False
theorem WkL.refl:∀l:List V,WkL l l
  | []=>trivial
  | _::l=>⟨.inl rfl,WkL.refl l⟩
theorem WkL.append:∀{a a' b b':List V},WkL a a'→WkL b b'→WkL (a++b) (a'++b')
  | [],[],_,_,_,h=>h
  | _::_,_::_,_,_,h,k=>⟨h.1,WkL.append h.2 k⟩
  | [],_::_,_,_,h,_=>nomatch h
  | _::_,[],_,_,h,_=>nomatch h
end Go.Vm
namespace Go.Vm
open Go
end Go.Vm
namespace Go.Vm
open Go
end Go.Vm
namespace Go.Vm
open Go
section
variable {α:Type} {f:α→V}
end
end Go.Vm
namespace Go.Vm
open Go
section
variable {τ α:Type} {pre:τ→List V} {sl:τ→List α} {f:α→V} {n:Nat}
end
end Go.Vm
namespace Go.Vm
open Go
def zE:=(And.intro (@get_mk) (And.intro (@look_cons) (And.intro (@look_nil) (And.intro (@set_none) (And.intro (@ev_tmp) (And.intro (@ev_const) (And.intro (@ev_func) (And.intro (@dst_some) (And.intro (@dst_none) (And.intro (@List.append_nil.{0}) (And.intro (@List.nil_append.{0}) (And.intro (@List.cons_append.{0}) (And.intro (@true_and) (And.intro (@and_true) (And.intro (@and_self) (And.intro (@imp_self) (And.intro (@Bool.false_eq_true) (And.intro (@false_implies) (And.intro (@cond_true.{1}) (And.intro (@cond_false.{1}) (And.intro (@decide_eq_true_eq) (And.intro (@eq_self_iff_true.{1}) (And.intro (@exists_eq_left'.{1}) (And.intro (@Option.some.injEq.{0}) (And.intro (@not_false_eq_true) (And.intro (@not_true_eq_false) (@ne_eq.{1})))))))))))))))))))))))))))
def zS:=(And.intro (@settle_int) (And.intro (@settle_bool) (And.intro (@settle_str) (And.intro (@settle_nsl) (And.intro (@settle_sl) (And.intro (@settle_ref) (And.intro (@settle_sub) (And.intro (@settle_ptr) (And.intro (@settle_pv) (And.intro (@settle_tup) (And.intro (@settle_fn) (And.intro (@settle_npt) (And.intro (@settle_agg) (And.intro (@settleL_nil) (And.intro (@settleL_nsl) (And.intro (@settleL_int) (And.intro (@settleL_bool) (And.intro (@settleL_str) (And.intro (@settleL_sl) (And.intro (@settleL_ref) (And.intro (@List.length_nil.{0}) (And.intro (@List.length_cons.{0}) (And.intro (@List.length_append.{0}) (And.intro (@Nat.zero_add) (And.intro (@Nat.add_zero) (@List.cons_append.{0}))))))))))))))))))))))))))
def zN:=(And.intro (@Nat.zero_lt_one) (And.intro (@Nat.lt_add_one) (And.intro (@Nat.zero_add) (And.intro (@Nat.add_zero) (And.intro (@Nat.le_refl) (@Nat.zero_lt_succ))))))
def zL:=(And.intro (@List.getElem?_toArray.{0}) (And.intro (@List.getElem?_cons_succ.{0}) (And.intro (@List.getElem?_cons_zero.{0}) (And.intro (@List.getD_cons_zero.{0}) (And.intro (@List.getD_cons_succ.{0}) (And.intro (@List.length_cons.{0}) (And.intro (@List.length_nil.{0}) (And.intro (@List.drop_zero.{0}) (And.intro (@List.drop_succ_cons.{0}) (And.intro (@List.headD_cons.{0}) (And.intro (@List.take_succ_cons.{0}) (And.intro (@List.take_zero.{0}) (And.intro (@List.take_nil.{0}) (And.intro (@List.drop_nil.{0}) (And.intro (@List.map_cons.{0,0}) (And.intro (@List.map_nil.{0,0}) (And.intro (@Option.bind_some.{0,0}) (And.intro (@Option.isSome_some.{0}) (@Option.map_some.{0,0})))))))))))))))))))
def zO:=(And.intro (@Bool.or_false) (And.intro (@Bool.false_or) (And.intro (@Bool.or_true) (And.intro (@Bool.true_or) (And.intro (@Bool.not_true) (And.intro (@Bool.not_false) (And.intro (@Bool.and_false) (And.intro (@Bool.and_true) (And.intro (@Bool.false_and) (And.intro (@Bool.true_and) (And.intro (@decide_true) (And.intro (@decide_false) (And.intro (@Bool.or_self) (@Bool.and_self))))))))))))))
def zJ:=(And.intro (@join_ff) (And.intro (@join_ft) (And.intro (@join_fv) (And.intro (@join_d) (And.intro (@join_s) (And.intro (@join_p) (And.intro (@fillK_join0) (And.intro (@List.isEmpty_nil.{0}) (And.intro (@List.isEmpty_cons.{0}) (And.intro (@fillK_join) (And.intro (@List.not_mem_nil.{0}) (And.intro (@List.nodup_nil.{0}) (And.intro (@List.mem_singleton.{0}) (And.intro (@List.nodup_cons.{0}) (And.intro (@beq_self_eq_true.{0}) (And.intro (@Bool.cond_true.{1}) (And.intro (@Bool.cond_false.{1}) (And.intro (@List.all_cons.{0}) (And.intro (@List.all_nil.{0}) (And.intro (@List.set_cons_zero.{0}) (@List.set_cons_succ.{0})))))))))))))))))))))
def zP:=(And.intro (@Bool.cond_true_right) (And.intro (@Bool.cond_true_left) (And.intro (@Bool.cond_false_right) (@Bool.cond_false_left))))
def zG:=(And.intro (@List.getElem?_toArray.{0}) (And.intro (@List.getElem?_cons_succ.{0}) (And.intro (@List.getElem?_cons_zero.{0}) (@Option.bind_some.{0,0}))))
def zV:=(And.intro (@get_mk) (And.intro (@look_cons) (And.intro (@cond_true.{1}) (And.intro (@cond_false.{1}) (And.intro (@Bool.and_false) (And.intro (@Bool.false_and) (And.intro (@Bool.not_true) (And.intro (@Bool.not_false) (And.intro (@List.getElem?_toArray.{0}) (And.intro (@List.getElem?_cons_succ.{0}) (And.intro (@List.getElem?_cons_zero.{0}) (@Option.bind_some.{0,0}))))))))))))
def zC:=(And.intro (@decide_eq_true_eq) (And.intro (@decide_eq_false_iff_not) (And.intro (@Bool.and_eq_true) (And.intro (@Bool.or_eq_true) (And.intro (@Bool.not_eq_true') (And.intro (@Bool.not_eq_false') (And.intro (@Bool.and_eq_false_imp) (And.intro (@Bool.or_eq_false_iff) (And.intro (@Int.not_lt) (And.intro (@Int.not_le) (And.intro (@Bool.true_eq_false) (And.intro (@Bool.false_eq_true) (And.intro (@imp_false) (@Classical.not_imp))))))))))))))
def zM:=(And.intro (@List.map_cons.{0,0}) (And.intro (@List.map_nil.{0,0}) (And.intro (@List.append_nil.{0}) (And.intro (@List.flatMap_nil.{0,0}) (And.intro (@List.mem_cons.{0}) (And.intro (@List.not_mem_nil.{0}) (And.intro (@or_false) (And.intro (@forall_eq_or_imp.{1}) (And.intro (@forall_eq.{1}) (@false_implies))))))))))
def zW:=(And.intro (@get_mk) (And.intro (@look_cons) (And.intro (@look_nil) (And.intro (@set_none) (And.intro (@ev_tmp) (And.intro (@ev_const) (@ev_func)))))))
def zY:=(And.intro (@List.append_nil.{0}) (And.intro (@List.cons_append.{0}) (And.intro (@List.nil_append.{0}) (And.intro (@List.length_nil.{0}) (And.intro (@List.length_cons.{0}) (And.intro (@Nat.zero_add) (And.intro (@Nat.not_lt_zero) (And.intro (@if_false.{1}) (@Nat.sub_zero)))))))))
theorem rng0:List.range 0=[]:=rfl
theorem rng1:List.range 1=[0]:=rfl
theorem rng2:List.range 2=[0,1]:=rfl
theorem rng3:List.range 3=[0,1,2]:=rfl
theorem rng4:List.range 4=[0,1,2,3]:=rfl
theorem rng5:List.range 5=[0,1,2,3,4]:=rfl
theorem rng6:List.range 6=[0,1,2,3,4,5]:=rfl
theorem rng7:List.range 7=[0,1,2,3,4,5,6]:=rfl
theorem rng8:List.range 8=[0,1,2,3,4,5,6,7]:=rfl
theorem rng9:List.range 9=[0,1,2,3,4,5,6,7,8]:=rfl
theorem rng10:List.range 10=[0,1,2,3,4,5,6,7,8,9]:=rfl
theorem rng11:List.range 11=[0,1,2,3,4,5,6,7,8,9,10]:=rfl
theorem rng12:List.range 12=[0,1,2,3,4,5,6,7,8,9,10,11]:=rfl
theorem flat_mix:Kd.flat.nm=true:=rfl
theorem deep_mix:Kd.deep.nm=true:=rfl
end Go.Vm
namespace Go.Vm
open Go
def Kd.isMix:Kd→Bool
  | .mix | .part=>true
  | _=>false
theorem isMix_flat:Kd.flat.isMix=false:=rfl
theorem isMix_deep:Kd.deep.isMix=false:=rfl
theorem isMix_shal:Kd.shal.isMix=false:=rfl
theorem isMix_thin:Kd.thin.isMix=false:=rfl
theorem isMix_mix:Kd.mix.isMix=true:=rfl
theorem isMix_part:Kd.part.isMix=true:=rfl
theorem isMix_fillK (i:Nat):(fillK i).isMix=false:=by unfold fillK;split<;>rfl
theorem isMix_thK (i:Nat):(thK i).isMix=false:=by unfold thK;split<;>rfl
def Blk.renM (ρ:Nat→Nat):Blk→Blk
  | .dead=>.dead
  | .arr xs k=>.arr (bif k.isMix then V.renL ρ xs else xs) k
  | .box x k=>.box (bif k.isMix then V.ren ρ x else x) k
def Blk.onlyM (p:Nat→Bool):Blk→Bool
  | .dead=>true
  | .arr xs k=> !k.isMix || V.onlyL p xs
  | .box x k=> !k.isMix || V.only p x
def St.compM (ids:List Nat) (s:St):St:={s with env:=s.env.map fun p=>(p.1,p.2.ren fun id=>(idx ids id).getD 0),O:=ids.map fun id=>(s.O.getD id .dead).renM fun id=>(idx ids id).getD 0}
theorem renL_map (ρ:Nat→Nat):∀l:List V,V.renL ρ l=l.map (V.ren ρ)
  | []=>by rw [V.renL];rfl
  | v::l=>by rw [V.renL,renL_map ρ l];rfl
theorem ren_cells (ρ:Nat→Nat) (v:V):(v.ren ρ).cells=v.cells.map (V.ren ρ):=by
  cases v<;>simp only [V.ren,V.cells,List.map_cons,List.map_nil]
  rw [renL_map]
theorem renL_flat (ρ:Nat→Nat) (l:List V):(V.renL ρ l).flatMap V.cells=V.renL ρ (l.flatMap V.cells):=by
  induction l with
  | nil=>simp [V.renL]
  | cons v l ih=>rw [V.renL,List.flatMap_cons,List.flatMap_cons,ih,ren_cells,renL_map,renL_map,List.map_append]
theorem only_cells {p:Nat→Bool} {v:V} (h:v.only p=true):V.onlyL p v.cells=true:=by
  cases v<;>simp_all [V.only,V.cells,V.onlyL]
theorem onlyL_append {p:Nat→Bool}:∀{a b:List V},V.onlyL p a=true→V.onlyL p b=true→V.onlyL p (a++b)=true
  | [],_,_,h=>h
  | v::a,b,h,h2=>by
    rw [V.onlyL,Bool.and_eq_true] at h
    rw [List.cons_append,V.onlyL,h.1,onlyL_append h.2 h2];rfl
theorem onlyL_flat {p:Nat→Bool}:∀{l:List V},V.onlyL p l=true→V.onlyL p (l.flatMap V.cells)=true
  | [],_=>by rw [List.flatMap_nil,V.onlyL]
  | v::l,h=>by
    rw [V.onlyL,Bool.and_eq_true] at h
    rw [List.flatMap_cons]
    exact onlyL_append (only_cells h.1) (onlyL_flat h.2)
theorem weak_compM {m:Nat} {s:St} (ids:List Nat) (hn:ids.Nodup) (hm:∀j,j < m→ids[j]? =some j) (he:∀p∈s.env,p.2.only (fun id=>(idx ids id).isSome)=true)
    (hb:∀id∈ids,∀bk,s.O[id]? =some bk→bk.onlyM (fun id=>(idx ids id).isSome)=true):Weak m s (s.compM ids):=by
  intro cx a w μ ow hmu h
  let ρ:Nat→Nat:=fun id=>(idx ids id).getD 0
  let μ':Nat→Option Loc:=fun j=>(ids[j]?).bind μ
  let ow':Ow:=fun b=>match ow b with
    | some (r,id)=>(idx ids id).map fun j=>(r,j)
    | none=>none
  have o0:∀b,ow b=none→ow' b=none:=fun b e=>by simp [ow',e]
  have o1:∀b id,ow b=some (false,id)→ow' b=none∨∃id',ow' b=some (false,id'):=fun b id e=>by
    cases q:idx ids id with
    | none=>exact .inl (by simp [ow',e,q])
    | some j=>exact .inr ⟨j,by simp [ow',e,q]⟩
  have oin:∀b r id j,ow b=some (r,id)→idx ids id=some j→ow' b=some (r,j):=fun b r id j e q=>by simp [ow',e,q]
  have one:∀b,ow' b≠none→ow b≠none:=fun b hb e=>hb (o0 b e)
  have hμ:∀id l,(idx ids id).isSome=true→μ id=some l→μ' (ρ id)=some l:=by
    intro id l hs e
    obtain ⟨j,hj⟩:=Option.isSome_iff_exists.1 hs
    have:=idx_spec hj
    simp [μ',ρ,hj,this,e]
  let μ2:Nat→Option Loc:=fun id=>if (idx ids id).isSome then μ id else none
  have h2:∀id l,μ2 id=some l→μ' (ρ id)=some l:=by
    intro id l e
    by_cases q:(idx ids id).isSome=true
    · exact hμ id l q (by simpa [μ2,q] using e)
    · simp [μ2,q] at e
  refine ⟨μ',ow',h.dfr,h.sz,fun t=> ?_,fun j bk e=> ?_,fun j hj=> ?_,fun b hb=>h.owl b (one b hb),fun b hb=>h.own b (one b hb),h.frm,fun id l e=> ?_⟩
  · obtain ⟨bl,r1,r2⟩:=h.env t
    show ∃bl,Rep w μ' (look t (s.env.map _)) _ bl∧_
    rw [look_ren]
    have r1':Rep w μ2 (look t s.env) (a.tmps.getD t undef) bl:=Rep.only (p:=fun id=>(idx ids id).isSome) (fun id l hp e=>by simp only [μ2,hp,if_true];exact e) r1 (look_only he t)
    exact ⟨bl,Rep.ren (ρ:=ρ) h2 r1',fun b hb=>(r2 b hb).mono2 (o0 b) (o1 b)⟩
  · have e' : (ids[j]?).map (fun id=>(s.O.getD id .dead).renM ρ)=some bk:=by rw [←List.getElem?_map];exact e
    rw [Option.map_eq_some_iff] at e'
    obtain ⟨id,hid,hbk⟩:=e'
    have hix:idx ids id=some j:=idx_get hn hid
    cases hO:s.O[id]? with
    | none=>
      rw [List.getD_eq_getElem?_getD,hO] at hbk
      simp only [Option.getD_none] at hbk
      subst hbk
      trivial
    | some bk' =>
      rw [List.getD_eq_getElem?_getD,hO] at hbk
      simp only [Option.getD_some] at hbk
      have hblk:=h.blk id bk' hO
      have hbm:=hb id (List.mem_of_getElem? hid) bk' hO
      have key:∀xs k,(k.isMix=true→V.onlyL (fun id=>(idx ids id).isSome) xs=true)→RowOK cx w μ ow s.vw id xs k→RowOK cx w μ' ow' s.vw j (bif k.isMix then V.renL ρ xs else xs) k:=by
        intro xs k hk ⟨l,q1,q2,q3⟩
        have q1':μ' j=some l:=by simp [μ',hid,q1]
        have hlen:(bif k.isMix then V.renL ρ xs else xs).length=xs.length:=by
          cases k.isMix
          · rfl
          · rw [cond_true,renL_map,List.length_map]
        refine ⟨l,q1',by rw [hlen];exact q2,?_⟩
        rcases q3 with ⟨q3,q3'⟩ | ⟨q3,q4,bl2,q5,q6,q7⟩
        · refine .inl ⟨q3,?_⟩
          subst q3'
          cases k.isMix
          · rfl
          · rw [cond_true,V.renL]
        · refine .inr ⟨q3,oin _ _ _ _ q4 hix,bl2,?_,?_,fun hne e=>q7 hne (List.length_eq_zero_iff.1 (by rw [←hlen,e];rfl))⟩
          · cases k with
            | flat | thin | deep | shal=>exact q5
            | mix | part=>
              obtain ⟨c1,c2,c3,c,t,vs,c4,c5,c6,c7,c8⟩:=q5
              refine ⟨c1,c2,?_,c,t,vs,c4,c5,?_,c7,c8⟩
              · intro x hx
                have hx':x∈V.renL ρ xs:=hx
                rw [renL_map] at hx'
                obtain ⟨y,hy,rfl⟩:=List.mem_map.1 hx'
                rw [ren_cells,List.length_map];exact c3 y hy
              · show RepL w μ' ((V.renL ρ xs).flatMap V.cells) vs bl2
                rw [renL_flat]
                have c6':RepL w μ (xs.flatMap V.cells) vs bl2:=c6
                exact RepL.ren (ρ:=ρ) h2 (RepL.only (p:=fun id=>(idx ids id).isSome) (μ':=μ2) (fun id l hp e=>by simp only [μ2,hp,if_true];exact e) c6' (onlyL_flat (hk rfl)))
          · cases k with
            | flat | thin=>exact q6
            | deep | part=>exact ⟨q6.1,fun b hb=>oin _ _ _ _ (q6.2 b hb) hix⟩
            | shal | mix=>exact fun b hb=>(q6 b hb).mono2 (o0 b) (o1 b)
      subst hbk
      cases bk' with
      | dead=>trivial
      | arr xs k=>exact key xs k (fun q=>by simpa [Blk.onlyM,q] using hbm) hblk
      | box x k=>
        have:=key [x] k (fun q=>by simpa [Blk.onlyM,q,V.onlyL] using hbm) hblk
        show RowOK cx w μ' ow' s.vw j [bif k.isMix then V.ren ρ x else x] k
        cases hq:k.isMix with
        | false=>rw [hq] at this;exact this
        | true=>rw [hq,cond_true,V.renL,V.renL] at this;exact this
  · have:ids[j]? =none:=List.getElem?_eq_none (by simpa [St.compM] using hj)
    simp [μ',this]
  · have hlt:id < m:=by
      rcases Nat.lt_or_ge id m with q | q
      · exact q
      · rw [hmu id q] at e;cases e
    have:=h.mu id l e
    simp [μ',hm id hlt,this]
theorem weak_bothM {m:Nat} {s s':St} (ks ids:List Nat) (hn:ids.Nodup) (hm:∀j,j < m→ids[j]? =some j) (he:∀p∈(s.keep ks).env,p.2.only (fun id=>(idx ids id).isSome)=true)
    (hb:∀id∈ids,∀bk,s.O[id]? =some bk→bk.onlyM (fun id=>(idx ids id).isSome)=true) (e:(s.keep ks).compM ids=s'):Weak m s s':=
  e ▸ weak_trans (weak_keep ks s) (weak_compM ids hn hm he hb)
theorem RepL.len {w:World} {μ:Nat→Option Loc}:∀{xs:List V} {vs:List Value} {bl:List Nat},RepL w μ xs vs bl→vs.length=xs.length
  | _,_,_,.nil=>rfl
  | _,_,_,.cons v x bl vs xs bl' h ht=>by rw [List.length_cons,List.length_cons,RepL.len ht]
def newIds (m:Nat) (v:V):List Nat:=(refsOf v).filter fun id=>Nat.ble m id
theorem ret_viewX {m:Nat} {s:St} {v:V} {R:V→List Blk→Prop} (hR:R (v.ren (outNo m (newIds m v))) (s.O.take m++(newIds m v).map (fun id=>s.O.getD id .dead))) (hw:s.vw=false:=by rfl)
    (h2:v.only (fun id=>Nat.blt id m || (idx (newIds m v) id).isSome)=true:=by rfl) (h3:(newIds m v).Nodup:=by first | decide | simp [newIds,refsOf,refs2,refs1]) (hm:m≤s.O.length:=by simp)
    (h6:∀bk∈s.O.take m++(newIds m v).map (fun id=>s.O.getD id .dead),bk.kindIs (fun k=>k.nm)=true:=by simp [newIds,refsOf,refs2,refs1,Blk.kindIs,fillK_mix]):∃r O',R r O'∧RetOK m s v r O':=
  ⟨_,_,hR,by
    unfold RetOK
    exact ⟨⟨h2,h3,hm⟩,rfl,rfl,h6,.inl hw⟩⟩
theorem rho_s (id n j:Nat):rho [id] n (j+1)=n+j:=by simp [rho]
theorem aCall_guard0 {P:Program} {s:St} {f:FuncId} {args args':List V} {r:V} {K:V→Prop} {G:Prop} (hc:G→Con P f args' [] r []) (ht:toArgs s [] args=some args')
    (hr:r.only (fun _=>false)=true) (hcl:r.clean=true) (hk:K r):∃r,(G→aCall P s f [] args fun v s'=>v=r∧s'={s with O:=s.O++[]})∧K r:=
  ⟨r,fun g=>aCall_new (hc g) ht (.inl ⟨hcl,by simp⟩) ⟨ren_only (by simp) hr,rfl⟩,hk⟩
theorem v_join {P:Program} {L:Lend} {m:Nat} {Q:AEx→St→Prop} {s:St} {x y:Code} {A:Type} (S:A→St) (ok:A→Prop)
    (h1:∀Q':AEx→St→Prop,(∀p s,ok p→Weak m s (S p)→Q' .normal s)→(∀i s,Q (.exit i) s→Q' (.exit i) s)→(∀s,Q .ret s→Q' .ret s)→awp P L m x Q' s)
    (h2:∀p,ok p→awp P L m y Q (S p)):awp P L m (.seq x y) Q s:=
  v_seq fun Q' hn he hr=>h1 Q' (fun p s hok hw=>hn s (S p) hw (h2 p hok)) he hr
theorem v_seqR {P:Program} {L:Lend} {m:Nat} {Q:AEx→St→Prop} {s:St} {id:Nat} {ops:Array Oper} {y:Code} (ks:List Nat)
    (h:∀K:St→Prop,(∀s,awp P L m y Q (s.keep ks)→K s)→aOps P L ops K ops.toList s):awp P L m (.seq (.region id ops false) y) Q s:=
  v_seq fun _ hn _ _=>v_region fun K k=>h K fun s q=>k s (hn s (s.keep ks) (weak_keep ks s) q)
theorem aCall_newX {P:Program} {s:St} {f:FuncId} {args args':List V} {R:V→List Blk→Prop} {K:V→St→Prop} (hc:ConX P f args' [] R) (ht:toArgs s [] args=some args')
    (h:∀r O',R r O'→((r.clean=true∧∀bk∈O',bk.kindIs (fun k=>k != .shal && k.nm)=true)∨(∀x∈args,x.coldIn []=true))∧K (r.ren (rho [] s.O.length)) {s with O:=s.O++O'}):aCall P s f [] args K:=
  ⟨s.O,.inl rfl,args',[],R,ht,rfl,List.nodup_nil,by simp,.inr (by simp),hc,fun r O' hR=>⟨(h r O' hR).1,by unfold setBlks;exact (h r O' hR).2⟩⟩
theorem aCall_lentX {P:Program} {s:St} {f:FuncId} {args args':List V} {bk:Blk} {R:V→List Blk→Prop} {K:V→St→Prop} (id:Nat) (hc:ConX P f args' [bk] R) (ht:toArgs s [id] args=some args')
    (hO:s.O[id]? =some bk) (hbk:bk.kindIs (fun k=>k.nm)=true∧bk≠.dead) (hv:s.vw=false∨bk.kindIs (fun k=>k == .flat)=true)
    (h:∀r O',R r O'→∃bk' O1,O'=bk'::O1∧((r.clean=true∧∀b∈O',b.kindIs (fun k=>k != .shal && k.nm)=true)∨(∀x∈args,x.coldIn [id]=true))∧K (r.ren (rho [id] s.O.length)) {s with O:=s.O.set id bk'++O1}):aCall P s f [id] args K:=
  ⟨s.O,.inl rfl,args',[bk],R,ht,by simp [hO],by simp,by simpa using hbk,hv.imp (fun h=>h) (fun h=>by simpa using h),hc,fun r O' hR=>by
    obtain ⟨bk',O1,e,h1,h2⟩:=h r O' hR
    subst e
    exact ⟨h1,by simpa [setBlks] using h2⟩⟩
theorem aCall_lent2X {P:Program} {s:St} {f:FuncId} {args args':List V} {bk bk2:Blk} {R:V→List Blk→Prop} {K:V→St→Prop} (i j:Nat) (hc:ConX P f args' [bk,bk2] R) (ht:toArgs s [i,j] args=some args')
    (hO:s.O[i]? =some bk) (hO2:s.O[j]? =some bk2) (hn:i≠j) (hbk:(bk.kindIs (fun k=>k.nm)=true∧bk≠.dead)∧(bk2.kindIs (fun k=>k.nm)=true∧bk2≠.dead)) (hv:s.vw=false)
    (h:∀r O',R r O'→∃b1 b2 O1,O'=b1::b2::O1∧((r.clean=true∧∀b∈O',b.kindIs (fun k=>k != .shal && k.nm)=true)∨(∀x∈args,x.coldIn [i,j]=true))∧K (r.ren (rho [i,j] s.O.length)) {s with O:=(s.O.set i b1).set j b2++O1}):aCall P s f [i,j] args K:=
  ⟨s.O,.inl rfl,args',[bk,bk2],R,ht,by simp [hO,hO2],by simp [hn],by
    intro b hb
    rcases List.mem_cons.1 hb with rfl | hb
    · exact hbk.1
    · rw [List.mem_singleton] at hb;subst hb;exact hbk.2,.inl hv,hc,fun r O' hR=>by
    obtain ⟨b1,b2,O1,e,h1,h2⟩:=h r O' hR
    subst e
    exact ⟨h1,by simpa [setBlks] using h2⟩⟩
theorem rho2_s (i j n m:Nat):rho [i,j] n (m+2)=n+m:=by
  rw [rho,if_neg (by simp)];simp
theorem rho2_0 (i j n:Nat):rho [i,j] n 0=i:=rfl
theorem rho2_1 (i j n:Nat):rho [i,j] n 1=j:=rfl
end Go.Vm
namespace Go.Vm
open Go Go.RowKit
theorem tabsIn_app {w:World} {l1 l2:List (Nat×(Array Value→Prop))} (h1:TabsIn w l1) (h2:TabsIn w l2):TabsIn w (l1++l2):=fun p hp=>(List.mem_append.1 hp).elim (h1 p) (h2 p)
theorem tabsIn_none {P:Program} {n:String} {q:Array Value→Prop} {w:World} (h:P.globalNamed n=none):TabsIn w (tabAt P n q):=by
  intro p hp
  unfold tabAt at hp
  rw [h] at hp;cases hp
theorem tabs_none {P:Program} (h:P.globalNamed "internal/strconv.uint64pow10" =none) (h1:P.globalNamed "strconv.ErrSyntax" =none) (h2:P.globalNamed "strconv.ErrRange" =none) {w:World}:TabsIn w (tabsOf P):=
  tabsIn_app (tabsIn_none h) (tabsIn_app (tabsIn_none h1) (tabsIn_none h2))
end Go.Vm
namespace Go.Vm
open Go
structure Tys (p:Prop):Prop where
  h:p
structure Fc (p:Prop):Prop where
  h:p
structure Ho (p:Prop):Prop where
  h:p
structure Sd (p:Prop):Prop where
  h:p
theorem setAll {xs:List V} {i n:Nat} {y:V} (h:∀x∈xs,x.cells.length=n) (hy:y.cells.length=n):∀x∈xs.set i y,x.cells.length=n:=by
  intro x hx
  rcases List.mem_or_eq_of_mem_set hx with q | q
  · exact h x q
  · rw [q];exact hy
theorem gdm {α:Type} {l:List α} {i:Nat} {x:α} (h:l[i]? =some x):∀f:α→V,(l.map f).getD i .any=f x:=fun _=>getD_map h
theorem ai {a b:Prop} (h:a) (k:b):a∧b:=⟨h,k⟩
theorem andA {A B:Prop} (b:B) (a:A:=by first | omega | (intros;omega) | (exact fill_all (fun _=>rfl) rfl) | (exact setAll (fun x hx=>by obtain ⟨t,_,rfl⟩:=List.mem_map.1 hx;rfl) rfl) | (have q:=‹Sd _›;exact q.h _) | (intros;simp_all;done) | (intros;simp_all;omega)):A∧B:=⟨a,b⟩
theorem andC {A B:Prop} (b:B) (a:A:=by first | rfl | (intros;simp_all;done)):A∧B:=⟨a,b⟩
theorem v_passB {P:Program} {L:Lend} {s:St} {rg:Array Oper} {K:St→Prop} {o:Oper} {rest:List Oper} {d j:Nat} {want:Bool} (hd:o.dst=some d) (hn:Nat.blt d s.n=true) (hg:o.guard=some (j,want)) (hv:guardV s rg j want=some false) (h:aOps P L rg K rest (s.set (some d) (.opt false .any))):aOps P L rg K (o::rest) s:=
  v_pass d j want hd (by rwa [Nat.blt_eq] at hn) hg hv h
theorem zAlloc {A B:Prop} (b:Ho B) (e:Ho B→A:=by
  intro b
  refine v_op ?_
  intro K k
  simp only [zE,zS,zO,zN,aStepM,optable,set_some,Nat.reduceEqDiff,reduceIte,Nat.reduceLT,implies_true,forall_const,reduceCtorEq,V.ofValue,V.ofScalar,V.un,V.gd,aExec,aop,Nat.reduceAdd,Value.oneCell',V.isVal,V.cells,kindOf,kindAll,V.noSl,V.noRef,List.all_cons,List.all_nil,List.map_cons,List.map_nil,gt_iff_lt,Nat.reduceLeDiff,Nat.reduceMul,contentL,‹Tys _›.h,‹Fc _›.h]
  repeat (refine andA ?_)
  refine k _ ?_
  clear k K
  exact b.h):A:=e b
theorem zAppend {A B:Prop} (b:Ho B) (e:Ho B→A:=by
  intro b
  refine v_op ?_
  intro K k
  simp only [zE,zL,zO,zN,aStepM,optable,set_some,Nat.reduceEqDiff,reduceIte,Nat.reduceLT,implies_true,forall_const,reduceCtorEq,V.ofValue,V.ofScalar,V.un,V.gd,aExec,aop,fillK_thin,beq_self_eq_true,List.nodup_cons,List.mem_singleton,forall_eq',List.size_toArray,List.getD_eq_getElem?_getD,Array.getD_eq_getD_getElem?,Option.getD_some,aAppend,destOf,srcOf,takeElems,takeV,takeCell,takeCells,row_mk,Blk.row,killAll,V.isSub,V.noSl,Value.cells,Option.toList,List.forall_mem_map,List.length_map,List.all_cons,List.all_nil,List.isEmpty_nil,List.isEmpty_cons,List.not_mem_nil,List.nodup_nil,join_ff,join_ft,join_fv,join_d,join_s,fillK_join0,fillK_join,List.mem_cons,or_false,forall_eq_or_imp,forall_eq,List.set_cons_zero,List.set_cons_succ,List.length_append,Go.Vm.V.cells,Nat.reduceAdd,Nat.reduceLeDiff,Nat.reduceMul,contentL,Value.oneCell',‹Tys _›.h,‹Fc _›.h]
  repeat (refine andA ?_)
  refine k _ ?_
  clear k K
  exact b.h):A:=e b
theorem zAssign {A B:Prop} (b:Ho B) (e:Ho B→A:=by
  intro b
  refine v_op ?_
  intro K k
  simp only [zE,zS,aStepM,optable,set_some,Nat.reduceEqDiff,reduceIte,Nat.reduceLT,implies_true,forall_const,reduceCtorEq,V.ofValue,V.ofScalar,V.un,V.gd,aExec,aop,Nat.reduceAdd,contentL,Value.oneCell',List.all_cons,List.all_nil,Bool.and_self,‹Tys _›.h,‹Fc _›.h]
  repeat (refine andA ?_)
  refine k _ ?_
  clear k K
  exact b.h):A:=e b
theorem zBinOp {A B:Prop} (b:Ho B) (e:Ho B→A:=by
  intro b
  refine v_op ?_
  intro K k
  simp only [zE,aStepM,optable,set_some,Nat.reduceEqDiff,reduceIte,Nat.reduceLT,implies_true,forall_const,reduceCtorEq,V.ofValue,V.ofScalar,V.un,V.gd,aExec,aop,aBin,isNil,or_true,true_or,or_false,false_or,EK.fitsL,EK.fits,cellsEq,cellEq,contentL,Value.oneCell',List.all_cons,List.all_nil,Bool.and_self,‹Tys _›.h,‹Fc _›.h]
  repeat (refine andA ?_)
  refine k _ ?_
  clear k K
  exact b.h):A:=e b
theorem zBinOpW {A B:Prop} (b:Ho B) (e:Ho B→A:=by
  intro b
  refine v_op ?_
  intro K k
  simp only [zE,aStepM,optable,set_some,Nat.reduceEqDiff,reduceIte,Nat.reduceLT,implies_true,forall_const,reduceCtorEq,V.ofValue,V.ofScalar,V.un,V.gd,aExec,aop,aBin,isNil,or_true,true_or,or_false,false_or,EK.fitsL,EK.fits,cellsEq,cellEq,contentL,Value.oneCell',List.all_cons,List.all_nil,Bool.and_self,‹Tys _›.h,‹Fc _›.h]
  try simp (disch:=omega) only [wrap64]
  repeat (refine andA ?_)
  refine k _ ?_
  clear k K
  exact b.h):A:=e b
theorem zgBinOp {A B:Prop} (b:Ho B) (e:Ho B→A:=by
  intro b
  first
  | refine v_passB rfl rfl rfl ?_ ?_
    · first | rfl | (simp only [zV,guardV,Nat.reduceEqDiff,reduceIte];done)
    simp only [zW,set_some,Nat.reduceEqDiff,reduceIte]
  | skip
    refine v_op ?_
    intro K k
    simp only [zE,zG,aStepM,optable,set_some,Nat.reduceEqDiff,reduceIte,Nat.reduceLT,implies_true,forall_const,reduceCtorEq,V.ofValue,V.ofScalar,V.un,V.gd,guardV,V.wrap,aExec,aop,aBin,isNil,or_true,true_or,or_false,false_or,EK.fitsL,EK.fits,cellsEq,cellEq,contentL,Value.oneCell',List.all_cons,List.all_nil,Bool.and_self,‹Tys _›.h,‹Fc _›.h]
    repeat (refine andA ?_)
    refine k _ ?_
    clear k K
  exact b.h):A:=e b
theorem zgBinOpW {A B:Prop} (b:Ho B) (e:Ho B→A:=by
  intro b
  first
  | refine v_passB rfl rfl rfl ?_ ?_
    · first | rfl | (simp only [zV,guardV,Nat.reduceEqDiff,reduceIte];done)
    simp only [zW,set_some,Nat.reduceEqDiff,reduceIte]
  | skip
    refine v_op ?_
    intro K k
    simp only [zE,zG,aStepM,optable,set_some,Nat.reduceEqDiff,reduceIte,Nat.reduceLT,implies_true,forall_const,reduceCtorEq,V.ofValue,V.ofScalar,V.un,V.gd,guardV,V.wrap,aExec,aop,aBin,isNil,or_true,true_or,or_false,false_or,EK.fitsL,EK.fits,cellsEq,cellEq,contentL,Value.oneCell',List.all_cons,List.all_nil,Bool.and_self,‹Tys _›.h,‹Fc _›.h]
    try simp (disch:=omega) only [wrap64]
    repeat (refine andA ?_)
    refine k _ ?_
    clear k K
  exact b.h):A:=e b
theorem zBox {A B:Prop} (b:Ho B) (e:Ho B→A:=by
  intro b
  refine v_op ?_
  intro K k
  simp only [zE,zS,zO,zN,aStepM,optable,set_some,Nat.reduceEqDiff,reduceIte,Nat.reduceLT,implies_true,forall_const,reduceCtorEq,V.ofValue,V.ofScalar,V.un,V.gd,aExec,aop,Nat.reduceAdd,V.isVal,V.cells,kindOf,kindAll,V.noSl,V.noRef,List.all_cons,List.all_nil,List.length_map,gt_iff_lt,Nat.reduceLeDiff,Nat.reduceMul,contentL,Value.oneCell',‹Tys _›.h,‹Fc _›.h]
  repeat (refine andA ?_)
  refine k _ ?_
  clear k K
  exact b.h):A:=e b
theorem zBuild {A B:Prop} (b:Ho B) (e:Ho B→A:=by
  intro b
  refine v_op ?_
  intro K k
  simp only [zE,zL,zO,zN,aStepM,optable,set_some,Nat.reduceEqDiff,reduceIte,Nat.reduceLT,implies_true,forall_const,reduceCtorEq,V.ofValue,V.ofScalar,V.un,V.gd,aExec,aop,fillV,if_true,Nat.zero_mul,Nat.one_mul,Nat.mul_one,V.isVal,V.cells,List.mem_cons,List.not_mem_nil,or_false,forall_eq_or_imp,forall_eq,Nat.reduceAdd,Nat.reduceLeDiff,Nat.reduceMul,contentL,Value.oneCell',List.all_cons,List.all_nil,‹Tys _›.h,‹Fc _›.h]
  repeat (refine andA ?_)
  refine k _ ?_
  clear k K
  exact b.h):A:=e b
theorem zBuildSlice {A B:Prop} (b:Ho B) (e:Ho B→A:=by
  intro b
  refine v_op ?_
  intro K k
  simp only [zE,zO,zN,aStepM,optable,set_some,Nat.reduceEqDiff,reduceIte,Nat.reduceLT,implies_true,forall_const,reduceCtorEq,V.ofValue,V.ofScalar,V.un,V.gd,aExec,aop,litElems,rng0,rng1,rng2,rng3,rng4,rng5,rng6,rng7,rng8,rng9,rng10,rng11,rng12,List.map_cons,List.map_nil,List.all_cons,List.all_nil,V.isVal,V.cells,content,contentL,kindAll,V.noRef,V.noSl,List.mem_cons,List.not_mem_nil,or_false,forall_eq_or_imp,forall_eq,if_true,Option.isSome_some,List.length_cons,List.length_nil,Nat.reduceAdd,Nat.reduceLeDiff,Nat.reduceMul,Value.oneCell',‹Tys _›.h,‹Fc _›.h]
  repeat (refine andA ?_)
  refine k _ ?_
  clear k K
  exact b.h):A:=e b
theorem zConvert {A B:Prop} (b:Ho B) (e:Ho B→A:=by
  intro b
  refine v_op ?_
  intro K k
  simp only [zE,zL,zN,aStepM,optable,set_some,Nat.reduceEqDiff,reduceIte,Nat.reduceLT,implies_true,forall_const,reduceCtorEq,V.ofValue,V.ofScalar,V.un,V.gd,aExec,aop,unByte,row_mk,Blk.row,TypeDesc.slice.injEq,Nat.reduceAdd,Nat.reduceLeDiff,Nat.reduceMul,contentL,Value.oneCell',List.all_cons,List.all_nil,Bool.and_self,‹Tys _›.h,‹Fc _›.h]
  repeat (refine andA ?_)
  refine k _ ?_
  clear k K
  exact b.h):A:=e b
theorem zExtract {A B:Prop} (b:Ho B) (e:Ho B→A:=by
  intro b
  refine v_op ?_
  intro K k
  simp only [zE,zL,zN,aStepM,optable,set_some,Nat.reduceEqDiff,reduceIte,Nat.reduceLT,implies_true,forall_const,reduceCtorEq,V.ofValue,V.ofScalar,V.un,V.gd,aExec,aop,aExtract,Nat.reduceAdd,Nat.reduceLeDiff,Nat.reduceMul,contentL,Value.oneCell',List.all_cons,List.all_nil,Bool.and_self,‹Tys _›.h,‹Fc _›.h]
  repeat (refine andA ?_)
  refine k _ ?_
  clear k K
  exact b.h):A:=e b
theorem zFieldAddr {A B:Prop} (b:Ho B) (e:Ho B→A:=by
  intro b
  refine v_op ?_
  intro K k
  simp only [zE,zL,zN,aStepM,optable,set_some,Nat.reduceEqDiff,reduceIte,Nat.reduceLT,implies_true,forall_const,reduceCtorEq,V.ofValue,V.ofScalar,V.un,V.gd,aExec,aop,aFieldAddr,Nat.reduceAdd,Nat.reduceLeDiff,Nat.reduceMul,contentL,Value.oneCell',List.all_cons,List.all_nil,Bool.and_self,‹Tys _›.h,‹Fc _›.h]
  repeat (refine andA ?_)
  refine k _ ?_
  clear k K
  exact b.h):A:=e b
theorem zgFieldAddr {A B:Prop} (b:Ho B) (e:Ho B→A:=by
  intro b
  first
  | refine v_passB rfl rfl rfl ?_ ?_
    · first | rfl | (simp only [zV,guardV,Nat.reduceEqDiff,reduceIte];done)
    simp only [zW,set_some,Nat.reduceEqDiff,reduceIte]
  | skip
    refine v_op ?_
    intro K k
    simp only [zE,zL,zN,aStepM,optable,set_some,Nat.reduceEqDiff,reduceIte,Nat.reduceLT,implies_true,forall_const,reduceCtorEq,V.ofValue,V.ofScalar,V.un,V.gd,guardV,V.wrap,aExec,aop,aFieldAddr,Nat.reduceAdd,Nat.reduceLeDiff,Nat.reduceMul,contentL,Value.oneCell',List.all_cons,List.all_nil,Bool.and_self,‹Tys _›.h,‹Fc _›.h]
    repeat (refine andA ?_)
    refine k _ ?_
    clear k K
  exact b.h):A:=e b
theorem zIndexAddr {A B:Prop} (b:Ho B) (e:Ho B→A:=by
  intro b
  refine v_op ?_
  intro K k
  simp only [zE,zL,zN,aStepM,optable,set_some,Nat.reduceEqDiff,reduceIte,Nat.reduceLT,implies_true,forall_const,reduceCtorEq,V.ofValue,V.ofScalar,V.un,V.gd,aExec,aop,List.mem_cons,List.not_mem_nil,or_false,forall_eq_or_imp,forall_eq,aIndexAddr,row_mk,Blk.row,Go.Vm.V.cells,List.forall_mem_map,List.length_map,Int.toNat_natCast,Int.reduceToNat,TypeDesc.slice.injEq,Nat.reduceAdd,Nat.reduceLeDiff,Nat.reduceMul,contentL,Value.oneCell',List.all_cons,List.all_nil,Bool.and_self,‹Tys _›.h,‹Fc _›.h]
  repeat (refine andA ?_)
  refine k _ ?_
  clear k K
  exact b.h):A:=e b
theorem zgIndexAddr {A B:Prop} (b:Ho B) (e:Ho B→A:=by
  intro b
  first
  | refine v_passB rfl rfl rfl ?_ ?_
    · first | rfl | (simp only [zV,guardV,Nat.reduceEqDiff,reduceIte];done)
    simp only [zW,set_some,Nat.reduceEqDiff,reduceIte]
  | skip
    refine v_op ?_
    intro K k
    simp only [zE,zL,zN,aStepM,optable,set_some,Nat.reduceEqDiff,reduceIte,Nat.reduceLT,implies_true,forall_const,reduceCtorEq,V.ofValue,V.ofScalar,V.un,V.gd,guardV,V.wrap,aExec,aop,List.mem_cons,List.not_mem_nil,or_false,forall_eq_or_imp,forall_eq,aIndexAddr,row_mk,Blk.row,Go.Vm.V.cells,List.forall_mem_map,List.length_map,Int.toNat_natCast,Int.reduceToNat,TypeDesc.slice.injEq,Nat.reduceAdd,Nat.reduceLeDiff,Nat.reduceMul,contentL,Value.oneCell',List.all_cons,List.all_nil,Bool.and_self,‹Tys _›.h,‹Fc _›.h]
    repeat (refine andA ?_)
    refine k _ ?_
    clear k K
  exact b.h):A:=e b
theorem zLen {A B:Prop} (b:Ho B) (e:Ho B→A:=by
  intro b
  refine v_op ?_
  intro K k
  simp only [zE,zL,zN,aStepM,optable,set_some,Nat.reduceEqDiff,reduceIte,Nat.reduceLT,implies_true,forall_const,reduceCtorEq,V.ofValue,V.ofScalar,V.un,V.gd,aExec,aop,List.length_map,aLen,lenOK,row_mk,Blk.row,List.size_toArray,List.getD_eq_getElem?_getD,Array.getD_eq_getD_getElem?,Option.getD_some,Nat.reduceAdd,Nat.reduceLeDiff,Nat.reduceMul,contentL,Value.oneCell',List.all_cons,List.all_nil,Bool.and_self,‹Tys _›.h,‹Fc _›.h]
  repeat (refine andA ?_)
  refine k _ ?_
  clear k K
  exact b.h):A:=e b
theorem zgLen {A B:Prop} (b:Ho B) (e:Ho B→A:=by
  intro b
  first
  | refine v_passB rfl rfl rfl ?_ ?_
    · first | rfl | (simp only [zV,guardV,Nat.reduceEqDiff,reduceIte];done)
    simp only [zW,set_some,Nat.reduceEqDiff,reduceIte]
  | skip
    refine v_op ?_
    intro K k
    simp only [zE,zL,zN,aStepM,optable,set_some,Nat.reduceEqDiff,reduceIte,Nat.reduceLT,implies_true,forall_const,reduceCtorEq,V.ofValue,V.ofScalar,V.un,V.gd,guardV,V.wrap,aExec,aop,List.length_map,aLen,lenOK,row_mk,Blk.row,List.size_toArray,List.getD_eq_getElem?_getD,Array.getD_eq_getD_getElem?,Option.getD_some,Nat.reduceAdd,Nat.reduceLeDiff,Nat.reduceMul,contentL,Value.oneCell',List.all_cons,List.all_nil,Bool.and_self,‹Tys _›.h,‹Fc _›.h]
    repeat (refine andA ?_)
    refine k _ ?_
    clear k K
  exact b.h):A:=e b
theorem zLoad {A B:Prop} (b:Ho B) (e:Ho B→A:=by
  intro b
  refine v_op ?_
  intro K k
  simp only [zE,zL,zO,zN,aStepM,optable,set_some,Nat.reduceEqDiff,reduceIte,Nat.reduceLT,implies_true,forall_const,reduceCtorEq,V.ofValue,V.ofScalar,V.un,V.gd,aExec,aop,aLoad,row_mk,Blk.row,PartOK,Go.Vm.part,V.cells,V.noSl,V.noRef,Nat.reduceAdd,Nat.reduceLeDiff,Nat.reduceMul,contentL,Value.oneCell',List.all_cons,List.all_nil,‹Tys _›.h,‹Fc _›.h]
  repeat (refine andA ?_)
  refine k _ ?_
  clear k K
  exact b.h):A:=e b
theorem zgLoad {A B:Prop} (b:Ho B) (e:Ho B→A:=by
  intro b
  first
  | refine v_passB rfl rfl rfl ?_ ?_
    · first | rfl | (simp only [zV,guardV,Nat.reduceEqDiff,reduceIte];done)
    simp only [zW,set_some,Nat.reduceEqDiff,reduceIte]
  | skip
    refine v_op ?_
    intro K k
    simp only [zE,zL,zO,zN,aStepM,optable,set_some,Nat.reduceEqDiff,reduceIte,Nat.reduceLT,implies_true,forall_const,reduceCtorEq,V.ofValue,V.ofScalar,V.un,V.gd,guardV,V.wrap,aExec,aop,aLoad,row_mk,Blk.row,PartOK,Go.Vm.part,V.cells,V.noSl,V.noRef,Nat.reduceAdd,Nat.reduceLeDiff,Nat.reduceMul,contentL,Value.oneCell',List.all_cons,List.all_nil,‹Tys _›.h,‹Fc _›.h]
    repeat (refine andA ?_)
    refine k _ ?_
    clear k K
  exact b.h):A:=e b
theorem zMakeFunc {A B:Prop} (b:Ho B) (e:Ho B→A:=by
  intro b
  refine v_op ?_
  intro K k
  simp only [zE,zL,aStepM,optable,set_some,Nat.reduceEqDiff,reduceIte,Nat.reduceLT,implies_true,forall_const,reduceCtorEq,V.ofValue,V.ofScalar,V.un,V.gd,aExec,aop,contentL,Value.oneCell',List.all_cons,List.all_nil,Bool.and_self,‹Tys _›.h,‹Fc _›.h]
  repeat (refine andA ?_)
  refine k _ ?_
  clear k K
  exact b.h):A:=e b
theorem zMakeSlice {A B:Prop} (b:Ho B) (e:Ho B→A:=by
  intro b
  refine v_op ?_
  intro K k
  simp only [zE,zL,zO,zN,aStepM,optable,set_some,Nat.reduceEqDiff,reduceIte,Nat.reduceLT,implies_true,forall_const,reduceCtorEq,V.ofValue,V.ofScalar,V.un,V.gd,aExec,aop,content,V.isVal,V.cells,V.noRef,V.noSl,Int.toNat_natCast,Nat.reduceAdd,Nat.reduceLeDiff,Nat.reduceMul,contentL,Value.oneCell',List.all_cons,List.all_nil,‹Tys _›.h,‹Fc _›.h]
  repeat (refine andA ?_)
  refine k _ ?_
  clear k K
  exact b.h):A:=e b
theorem zMax {A B:Prop} (b:Ho B) (e:Ho B→A:=by
  intro b
  refine v_op ?_
  intro K k
  simp only [zE,aStepM,optable,set_some,Nat.reduceEqDiff,reduceIte,Nat.reduceLT,implies_true,forall_const,reduceCtorEq,V.ofValue,V.ofScalar,V.un,V.gd,aExec,aop,aMinMax,List.mem_cons,List.not_mem_nil,or_false,forall_eq_or_imp,forall_eq,List.map_cons,List.map_nil,if_true,if_false,contentL,Value.oneCell',List.all_cons,List.all_nil,Bool.and_self,‹Tys _›.h,‹Fc _›.h]
  repeat (refine andA ?_)
  refine k _ ?_
  clear k K
  exact b.h):A:=e b
theorem zMove {A B:Prop} (b:Ho B) (e:Ho B→A:=by
  intro b
  refine v_op ?_
  intro K k
  simp only [zE,aStepM,optable,set_some,Nat.reduceEqDiff,reduceIte,Nat.reduceLT,implies_true,forall_const,reduceCtorEq,V.ofValue,V.ofScalar,V.un,V.gd,aExec,aop,contentL,Value.oneCell',List.all_cons,List.all_nil,Bool.and_self,‹Tys _›.h,‹Fc _›.h]
  repeat (refine andA ?_)
  refine k _ ?_
  clear k K
  exact b.h):A:=e b
theorem zgMove {A B:Prop} (b:Ho B) (e:Ho B→A:=by
  intro b
  first
  | refine v_passB rfl rfl rfl ?_ ?_
    · first | rfl | (simp only [zV,guardV,Nat.reduceEqDiff,reduceIte];done)
    simp only [zW,set_some,Nat.reduceEqDiff,reduceIte]
  | skip
    refine v_op ?_
    intro K k
    simp only [zE,zG,aStepM,optable,set_some,Nat.reduceEqDiff,reduceIte,Nat.reduceLT,implies_true,forall_const,reduceCtorEq,V.ofValue,V.ofScalar,V.un,V.gd,guardV,V.wrap,aExec,aop,contentL,Value.oneCell',List.all_cons,List.all_nil,Bool.and_self,‹Tys _›.h,‹Fc _›.h]
    repeat (refine andA ?_)
    refine k _ ?_
    clear k K
  exact b.h):A:=e b
theorem zNilCheck {A B:Prop} (b:Ho B) (e:Ho B→A:=by
  intro b
  refine v_op ?_
  intro K k
  simp only [zE,aStepM,optable,set_some,Nat.reduceEqDiff,reduceIte,Nat.reduceLT,implies_true,forall_const,reduceCtorEq,V.ofValue,V.ofScalar,V.un,V.gd,aExec,aop,contentL,Value.oneCell',List.all_cons,List.all_nil,Bool.and_self,‹Tys _›.h,‹Fc _›.h]
  repeat (refine andA ?_)
  refine k _ ?_
  clear k K
  exact b.h):A:=e b
theorem zPick {A B:Prop} (b:Ho B) (e:Ho B→A:=by
  intro b
  refine v_op ?_
  intro K k
  simp only [zE,zP,aStepM,optable,set_some,Nat.reduceEqDiff,reduceIte,Nat.reduceLT,implies_true,forall_const,reduceCtorEq,V.ofValue,V.ofScalar,V.un,V.gd,aExec,aop,pickV,contentL,Value.oneCell',List.all_cons,List.all_nil,Bool.and_self,‹Tys _›.h,‹Fc _›.h]
  repeat (refine andA ?_)
  refine k _ ?_
  clear k K
  exact b.h):A:=e b
theorem zgPick {A B:Prop} (b:Ho B) (e:Ho B→A:=by
  intro b
  first
  | refine v_passB rfl rfl rfl ?_ ?_
    · first | rfl | (simp only [zV,guardV,Nat.reduceEqDiff,reduceIte];done)
    simp only [zW,set_some,Nat.reduceEqDiff,reduceIte]
  | skip
    refine v_op ?_
    intro K k
    simp only [zE,zP,zG,aStepM,optable,set_some,Nat.reduceEqDiff,reduceIte,Nat.reduceLT,implies_true,forall_const,reduceCtorEq,V.ofValue,V.ofScalar,V.un,V.gd,guardV,V.wrap,aExec,aop,pickV,contentL,Value.oneCell',List.all_cons,List.all_nil,Bool.and_self,‹Tys _›.h,‹Fc _›.h]
    repeat (refine andA ?_)
    refine k _ ?_
    clear k K
  exact b.h):A:=e b
theorem zSlice {A B:Prop} (b:Ho B) (e:Ho B→A:=by
  intro b
  refine v_op ?_
  intro K k
  simp only [zE,zL,zN,aStepM,optable,set_some,Nat.reduceEqDiff,reduceIte,Nat.reduceLT,implies_true,forall_const,reduceCtorEq,V.ofValue,V.ofScalar,V.un,V.gd,aExec,aop,List.set_cons_zero,List.set_cons_succ,aSlice,forall_eq',bound,ElemsOK,Option.map_none,Option.isNone_none,row_mk,Blk.row,TypeDesc.slice.injEq,List.forall_mem_map,List.length_map,Go.Vm.V.cells,Int.toNat_natCast,Int.reduceToNat,←List.map_take,←List.map_drop,List.take_length,Nat.reduceAdd,Nat.reduceLeDiff,Nat.reduceMul,contentL,Value.oneCell',List.all_cons,List.all_nil,Bool.and_self,‹Tys _›.h,‹Fc _›.h]
  repeat (refine andA ?_)
  refine k _ ?_
  clear k K
  exact b.h):A:=e b
theorem zStore {A B:Prop} (b:Ho B) (e:Ho B→A:=by
  intro b
  refine v_op ?_
  intro K k
  simp only [zE,zS,zJ,zL,zO,zN,aStepM,optable,set_some,Nat.reduceEqDiff,reduceIte,Nat.reduceLT,implies_true,forall_const,reduceCtorEq,V.ofValue,V.ofScalar,V.un,V.gd,aExec,aop,aStore,setCells,V.isVal,V.cells,kindOf,kindAll,V.noSl,V.noRef,gt_iff_lt,Nat.reduceAdd,Nat.reduceLeDiff,Nat.reduceMul,takeV,takeCell,takeCells,row_mk,Blk.row,killAll,Nat.reduceBEq,join_t,contentL,Value.oneCell',‹Tys _›.h,‹Fc _›.h]
  repeat (refine andA ?_)
  refine k _ ?_
  clear k K
  exact b.h):A:=e b
theorem zUnOp {A B:Prop} (b:Ho B) (e:Ho B→A:=by
  intro b
  refine v_op ?_
  intro K k
  simp only [zE,aStepM,optable,set_some,Nat.reduceEqDiff,reduceIte,Nat.reduceLT,implies_true,forall_const,reduceCtorEq,V.ofValue,V.ofScalar,V.un,V.gd,aExec,aop,aUn,contentL,Value.oneCell',List.all_cons,List.all_nil,Bool.and_self,‹Tys _›.h,‹Fc _›.h]
  repeat (refine andA ?_)
  refine k _ ?_
  clear k K
  exact b.h):A:=e b
theorem zgUnOp {A B:Prop} (b:Ho B) (e:Ho B→A:=by
  intro b
  first
  | refine v_passB rfl rfl rfl ?_ ?_
    · first | rfl | (simp only [zV,guardV,Nat.reduceEqDiff,reduceIte];done)
    simp only [zW,set_some,Nat.reduceEqDiff,reduceIte]
  | skip
    refine v_op ?_
    intro K k
    simp only [zE,zG,aStepM,optable,set_some,Nat.reduceEqDiff,reduceIte,Nat.reduceLT,implies_true,forall_const,reduceCtorEq,V.ofValue,V.ofScalar,V.un,V.gd,guardV,V.wrap,aExec,aop,aUn,contentL,Value.oneCell',List.all_cons,List.all_nil,Bool.and_self,‹Tys _›.h,‹Fc _›.h]
    repeat (refine andA ?_)
    refine k _ ?_
    clear k K
  exact b.h):A:=e b
theorem zk {A B:Prop} (b:Ho B) (e:Ho B→A:=by
  intro b
  simp only [keep_mk,keepE_nil,keepE_cons,look_cons,look_nil,Nat.reduceEqDiff,reduceIte]
  exact b.h):A:=e b
theorem zCl {A B:Prop} (b:Ho B) (e:Ho B→A:=by
  intro b
  simp only [zE,zL,zO,zN,aStepM,optable,set_some,Nat.reduceEqDiff,reduceIte,Nat.reduceLT,implies_true,forall_const,reduceCtorEq,V.ofValue,V.ofScalar,V.un,V.gd,aLoad,row_mk,Blk.row,PartOK,Go.Vm.part,V.cells,V.noSl,V.noRef,Nat.reduceAdd,Nat.reduceLeDiff,Nat.reduceMul,‹Tys _›.h]
  exact b.h):A:=e b
theorem zf {A B:Prop} (b:Ho B) (e:Ho B→A:=by
  intro b
  simp only [resK,pickRV,get_mk,look_cons,look_nil,Nat.reduceEqDiff,reduceIte,List.map_cons,List.map_nil]
  exact b.h):A:=e b
theorem v_condS {P:Program} {L:Lend} {m:Nat} {Q:AEx→St→Prop} {s:St} {c:Operand} {x y:Code} (b:Bool) (hc:s.ev c=.bool b) {p q:Prop} (h1:p→awp P L m x Q s) (h2:q→awp P L m y Q s)
    (hp:b=true→p:=by first | (intro h;simp only [zC,reduceCtorEq] at h;exact h) | exact fun h=>h) (hq:b=false→q:=by first | (intro h;simp only [zC,reduceCtorEq] at h;exact h) | exact fun h=>h):awp P L m (.cond c x y) Q s:=
  v_cond b hc (fun h=>h1 (hp h)) (fun h=>h2 (hq h))
theorem weak_bothS {m:Nat} {s s':St} {B:Prop} (ks ids:List Nat) (b:Ho B) (hn:ids.Nodup:=by decide) (hm:∀j,j < m→ids[j]? =some j:=by simp)
    (he:∀p∈(s.keep ks).env,p.2.only (fun id=>(idx ids id).isSome)=true:=by simp [keep_mk,keepE_nil,keepE_cons,look_cons,V.only,V.onlyL,idx]<;>(first | rfl | decide))
    (hb:∀id∈ids,∀bk,s.O[id]? =some bk→bk.kindIs (fun k=>k.nm)=true:=by simp [Blk.kindIs,fillK_mix,thK_mix])
    (e:Ho B→(s.keep ks).comp ids=s':=by
      intro b
      simp only [keep_mk,keepE_nil,keepE_cons,look_cons,look_nil,Nat.reduceEqDiff,reduceIte,St.comp,List.map_cons,List.map_nil,V.ren,V.renL,idx,List.getD_cons_zero,List.getD_cons_succ,Nat.reduceBEq,cond_true,cond_false,Option.map_some,Option.getD_some,Nat.reduceAdd,beq_dec,decide_true,decide_false]
      exact b.h):Weak m s s':=weak_both ks ids hn hm he hb (e b)
theorem weak_bothC {m:Nat} {s s':St} {B:Prop} (ks ids:List Nat) (b:Ho B) (hn:ids.Nodup:=by decide) (hm:∀j,j < m→ids[j]? =some j:=by simp)
    (he:∀p∈(s.keep ks).env,p.2.only (fun id=>(idx ids id).isSome)=true:=by simp [keep_mk,keepE_nil,keepE_cons,look_cons,V.only,V.onlyL,idx,‹Caps _›.cn]<;>(first | rfl | decide))
    (hb:∀id∈ids,∀bk,s.O[id]? =some bk→bk.kindIs (fun k=>k.nm)=true:=by simp [Blk.kindIs,fillK_mix,thK_mix])
    (e:Ho B→(s.keep ks).comp ids=s':=by
      intro b
      simp only [keep_mk,keepE_nil,keepE_cons,look_cons,look_nil,Nat.reduceEqDiff,reduceIte,St.comp,List.map_cons,List.map_nil,V.ren,V.renL,idx,List.getD_cons_zero,List.getD_cons_succ,Nat.reduceBEq,cond_true,cond_false,Option.map_some,Option.getD_some,Nat.reduceAdd,beq_dec,decide_true,decide_false,‹Caps _›.cr]
      exact b.h):Weak m s s':=weak_both ks ids hn hm he hb (e b)
theorem weak_same {m:Nat} {s s':St} (ks ids:List Nat) (hn:ids.Nodup:=by decide) (hm:∀j,j < m→ids[j]? =some j:=by simp)
    (he:∀p∈(s.keep ks).env,p.2.only (fun id=>(idx ids id).isSome)=true:=by simp [keep_mk,keepE_nil,keepE_cons,look_cons,V.only,V.onlyL,idx]<;>(first | rfl | decide))
    (hb:∀id∈ids,∀bk,s.O[id]? =some bk→bk.onlyM (fun id=>(idx ids id).isSome)=true:=by simp [Blk.onlyM,isMix_flat,isMix_deep,isMix_shal,isMix_thin,isMix_mix,isMix_part,isMix_fillK,isMix_thK,V.only,V.onlyL,idx]<;>(first | rfl | decide))
    (e:(s.keep ks).compM ids=s':=by first | (simp only [keep_mk,keepE_nil,keepE_cons,look_cons,look_nil,Nat.reduceEqDiff,reduceIte,St.compM,Blk.renM,isMix_flat,isMix_deep,isMix_shal,isMix_thin,isMix_mix,isMix_part,isMix_fillK,isMix_thK,List.map_cons,List.map_nil,V.ren,V.renL,idx,List.getD_cons_zero,List.getD_cons_succ,Nat.reduceBEq,cond_true,cond_false,Option.map_some,Option.getD_some,Nat.reduceAdd,beq_dec,decide_true,decide_false];done) | rfl):Weak m s s':=weak_bothM ks ids hn hm he hb e
theorem zc {C A B:Prop} (con:C) (b:Ho B) (e:C→Ho B→A:=by
  intro con b
  refine v_op ?_
  intro K k
  simp only [zE,zM,aStepM,optable,set_some,Nat.reduceEqDiff,reduceIte,Nat.reduceLT,implies_true,forall_const,reduceCtorEq,V.ofValue,V.ofScalar,V.un,V.gd,aExec,lentIds,lendOf,‹Tys _›.h,‹Fc _›.h]
  repeat (refine andC ?_)
  refine aCall_new con (by first | rfl | (simp only [toArgs,toArg,toCell,toCells,toRows,Option.map_some,idx,row_mk,List.getElem?_cons_zero,List.getElem?_cons_succ,Option.bind_some,Blk.row,fillK_mix,thK_mix,flat_mix,deep_mix,thin_mix,shal_mix,cond_true,List.map_take];done) | (simp [toArgs,toArg,toCell,toCells,toRows,idx,row_mk,Blk.row,fillK_mix,thK_mix,flat_mix,deep_mix,thin_mix,shal_mix,Nat.beq_refl];done)) (by first | exact .inl ⟨rfl,by simp [Blk.kindIs,fillK_fd,thK_fd]⟩ | exact .inr (by simp [V.cold])) ?_
  refine k _ ?_
  clear k K
  simp only [zY,zW,set_some,Nat.reduceEqDiff,reduceIte,V.ren,V.renL,rho,Nat.reduceAdd]
  exact b.h):A:=e con b
theorem zcl {C A B:Prop} (con:C) (b:Ho B) (e:C→Ho B→A:=by
  intro con b
  refine v_op ?_
  intro K k
  simp only [zE,zM,aStepM,optable,set_some,Nat.reduceEqDiff,reduceIte,Nat.reduceLT,implies_true,forall_const,reduceCtorEq,V.ofValue,V.ofScalar,V.un,V.gd,aExec,lentIds,lendOf,‹Tys _›.h,‹Fc _›.h]
  repeat (refine andC ?_)
  refine aCall_lent _ con (by first | rfl | (simp only [toArgs,toArg,toCell,toCells,toRows,Option.map_some,idx,row_mk,List.getElem?_cons_zero,List.getElem?_cons_succ,Option.bind_some,Blk.row,fillK_mix,thK_mix,flat_mix,deep_mix,thin_mix,shal_mix,cond_true,List.map_take];done) | (simp [toArgs,toArg,toCell,toCells,toRows,idx,row_mk,Blk.row,fillK_mix,thK_mix,flat_mix,deep_mix,thin_mix,shal_mix,Nat.beq_refl];done)) (by rfl) ⟨by simp [Blk.kindIs,fillK_mix,thK_mix],by simp⟩ (by first | exact .inl rfl | exact .inr (by simp [Blk.kindIs])) ⟨rfl,by simp [Blk.kindIs,fillK_fd,thK_fd]⟩ ?_
  refine k _ ?_
  clear k K
  simp only [zY,zW,set_some,Nat.reduceEqDiff,reduceIte,rho_one,rho_s,V.ren,V.renL,List.set_cons_zero,List.set_cons_succ,Nat.reduceAdd]
  exact b.h):A:=e con b
theorem zcc {C A B:Prop} (con:C) (b:Ho B) (e:C→Ho B→A:=by
  intro con b
  refine v_op ?_
  intro K k
  simp only [zE,zM,aStepM,optable,set_some,Nat.reduceEqDiff,reduceIte,Nat.reduceLT,implies_true,forall_const,reduceCtorEq,V.ofValue,V.ofScalar,V.un,V.gd,aExec,lentIds,lendOf,‹Tys _›.h,‹Fc _›.h]
  repeat (refine andC ?_)
  refine aCall_new con (by first | rfl | (simp only [toArgs,toArg,toCell,toCells,toRows,Option.map_some,idx,row_mk,List.getElem?_cons_zero,List.getElem?_cons_succ,Option.bind_some,Blk.row,fillK_mix,thK_mix,flat_mix,deep_mix,thin_mix,shal_mix,cond_true,List.map_take,‹Caps _›.cc,‹Caps _›.ca];done) | (simp [toArgs,toArg,toCell,toCells,toRows,idx,row_mk,Blk.row,fillK_mix,thK_mix,flat_mix,deep_mix,thin_mix,shal_mix,Nat.beq_refl,‹Caps _›.cc,‹Caps _›.ca];done)) (by first | exact .inl ⟨rfl,by simp [Blk.kindIs,fillK_fd,thK_fd]⟩ | exact .inr (by simp [V.cold])) ?_
  refine k _ ?_
  clear k K
  simp only [zY,zW,set_some,Nat.reduceEqDiff,reduceIte,V.ren,V.renL,rho,Nat.reduceAdd]
  exact b.h):A:=e con b
theorem aCall_newXA {P:Program} {s:St} {f:FuncId} {args args':List V} {R:V→List Blk→Prop} {K:V→St→Prop} (hc:ConX P f args' [] R)
    (h:∀r O',R r O'→((r.clean=true∧∀bk∈O',bk.kindIs (fun k=>k != .shal && k.nm)=true)∨(∀x∈args,x.coldIn []=true))∧K (r.ren (rho [] s.O.length)) {s with O:=s.O++O'}) (ht:toArgs s [] args=some args':=by first | rfl | (simp only [toArgs,toArg,toCell,toCells,toRows,Option.map_some,idx,row_mk,List.getElem?_cons_zero,List.getElem?_cons_succ,Option.bind_some,Blk.row,fillK_mix,thK_mix,flat_mix,deep_mix,thin_mix,shal_mix,cond_true,List.map_take];done) | (simp [toArgs,toArg,toCell,toCells,toRows,idx,row_mk,Blk.row,fillK_mix,thK_mix,flat_mix,deep_mix,thin_mix,shal_mix,Nat.beq_refl];done)):aCall P s f [] args K:=aCall_newX hc ht h
theorem aCall_lentXA {P:Program} {s:St} {f:FuncId} {args args':List V} {bk:Blk} {R:V→List Blk→Prop} {K:V→St→Prop} {id:Nat} (hc:ConX P f args' [bk] R)
    (h:∀r O',R r O'→∃bk' O1,O'=bk'::O1∧((r.clean=true∧∀b∈O',b.kindIs (fun k=>k != .shal && k.nm)=true)∨(∀x∈args,x.coldIn [id]=true))∧K (r.ren (rho [id] s.O.length)) {s with O:=s.O.set id bk'++O1})
    (ht:toArgs s [id] args=some args':=by first | rfl | (simp only [toArgs,toArg,toCell,toCells,toRows,Option.map_some,idx,row_mk,List.getElem?_cons_zero,List.getElem?_cons_succ,Option.bind_some,Blk.row,fillK_mix,thK_mix,flat_mix,deep_mix,thin_mix,shal_mix,cond_true,List.map_take];done) | (simp [toArgs,toArg,toCell,toCells,toRows,idx,row_mk,Blk.row,fillK_mix,thK_mix,flat_mix,deep_mix,thin_mix,shal_mix,Nat.beq_refl];done)) (hO:s.O[id]? =some bk:=by rfl) (hbk:bk.kindIs (fun k=>k.nm)=true∧bk≠.dead:=by exact ⟨by simp [Blk.kindIs,fillK_mix,thK_mix],by simp⟩)
    (hv:s.vw=false∨bk.kindIs (fun k=>k == .flat)=true:=by first | exact .inl rfl | exact .inr (by simp [Blk.kindIs])):aCall P s f [id] args K:=aCall_lentX id hc ht hO hbk hv h
theorem aCall_lent2XA {P:Program} {s:St} {f:FuncId} {args args':List V} {bk bk2:Blk} {R:V→List Blk→Prop} {K:V→St→Prop} {i j:Nat} (hc:ConX P f args' [bk,bk2] R)
    (h:∀r O',R r O'→∃b1 b2 O1,O'=b1::b2::O1∧((r.clean=true∧∀b∈O',b.kindIs (fun k=>k != .shal && k.nm)=true)∨(∀x∈args,x.coldIn [i,j]=true))∧K (r.ren (rho [i,j] s.O.length)) {s with O:=(s.O.set i b1).set j b2++O1})
    (ht:toArgs s [i,j] args=some args':=by first | rfl | (simp only [toArgs,toArg,toCell,toCells,toRows,Option.map_some,idx,row_mk,List.getElem?_cons_zero,List.getElem?_cons_succ,Option.bind_some,Blk.row,fillK_mix,thK_mix,flat_mix,deep_mix,thin_mix,shal_mix,cond_true,List.map_take];done) | (simp [toArgs,toArg,toCell,toCells,toRows,idx,row_mk,Blk.row,fillK_mix,thK_mix,flat_mix,deep_mix,thin_mix,shal_mix,Nat.beq_refl];done)) (hO:s.O[i]? =some bk:=by rfl) (hO2:s.O[j]? =some bk2:=by rfl) (hn:i≠j:=by decide) (hbk:(bk.kindIs (fun k=>k.nm)=true∧bk≠.dead)∧(bk2.kindIs (fun k=>k.nm)=true∧bk2≠.dead):=by exact ⟨⟨by simp [Blk.kindIs,fillK_mix,thK_mix],by simp⟩,⟨by simp [Blk.kindIs,fillK_mix,thK_mix],by simp⟩⟩)
    (hv:s.vw=false:=by rfl):aCall P s f [i,j] args K:=aCall_lent2X i j hc ht hO hO2 hn hbk hv h
theorem zgc {C A B:Prop} (con:C) (b:Ho B) (e:C→Ho B→A:=by
  intro con b
  first
  | refine v_passB rfl rfl rfl ?_ ?_
    · first | rfl | (simp only [zV,guardV,Nat.reduceEqDiff,reduceIte];done)
    simp only [zW,set_some,Nat.reduceEqDiff,reduceIte]
  | skip
    refine v_op ?_
    intro K k
    simp only [zE,zG,aStepM,optable,set_some,Nat.reduceEqDiff,reduceIte,Nat.reduceLT,implies_true,forall_const,reduceCtorEq,V.ofValue,V.ofScalar,V.un,V.gd,guardV,‹Tys _›.h,‹Fc _›.h]
    simp only [zM,zW,aExec,lentIds,lendOf,set_some,Nat.reduceEqDiff,reduceIte,V.ofValue,V.ofScalar,V.un,V.gd,and_true,true_and,implies_true,and_self,decide_eq_true_eq]
    first | refine Exists.imp (fun r h=>h) (aCall_guardT con (by first | rfl | (simp only [toArgs,toArg,toCell,toCells,toRows,Option.map_some,idx,row_mk,List.getElem?_cons_zero,List.getElem?_cons_succ,Option.bind_some,Blk.row,fillK_mix,thK_mix,flat_mix,deep_mix,thin_mix,shal_mix,cond_true,List.map_take];done) | (simp [toArgs,toArg,toCell,toCells,toRows,idx,row_mk,Blk.row,fillK_mix,thK_mix,flat_mix,deep_mix,thin_mix,shal_mix,Nat.beq_refl];done)) rfl rfl ?_) | refine Exists.imp (fun r h=>h) (aCall_guard0 (fun hg=>con) (by first | rfl | (simp only [toArgs,toArg,toCell,toCells,toRows,Option.map_some,idx,row_mk,List.getElem?_cons_zero,List.getElem?_cons_succ,Option.bind_some,Blk.row,fillK_mix,thK_mix,flat_mix,deep_mix,thin_mix,shal_mix,cond_true,List.map_take];done) | (simp [toArgs,toArg,toCell,toCells,toRows,idx,row_mk,Blk.row,fillK_mix,thK_mix,flat_mix,deep_mix,thin_mix,shal_mix,Nat.beq_refl];done)) rfl rfl ?_) | refine Exists.imp (fun r h=>h) (aCall_guard (by first | (intros;trivial) | (intros;simp_all;done)) (fun hg=>con) (by first | rfl | (simp only [toArgs,toArg,toCell,toCells,toRows,Option.map_some,idx,row_mk,List.getElem?_cons_zero,List.getElem?_cons_succ,Option.bind_some,Blk.row,fillK_mix,thK_mix,flat_mix,deep_mix,thin_mix,shal_mix,cond_true,List.map_take];done) | (simp [toArgs,toArg,toCell,toCells,toRows,idx,row_mk,Blk.row,fillK_mix,thK_mix,flat_mix,deep_mix,thin_mix,shal_mix,Nat.beq_refl];done)) rfl rfl ?_)
    refine k _ ?_
    clear k K
  exact b.h):A:=e con b
theorem zsBuildSlice {A B:Prop} (b:Ho B) (e:Ho B→A:=by
  intro b
  intro K k
  simp only [zE,zO,zN,aStepM,optable,set_some,Nat.reduceEqDiff,reduceIte,Nat.reduceLT,implies_true,forall_const,reduceCtorEq,V.ofValue,V.ofScalar,V.un,V.gd,aExec,aop,litElems,rng0,rng1,rng2,rng3,rng4,rng5,rng6,rng7,rng8,rng9,rng10,rng11,rng12,List.map_cons,List.map_nil,List.all_cons,List.all_nil,V.isVal,V.cells,content,contentL,kindAll,V.noRef,V.noSl,List.mem_cons,List.not_mem_nil,or_false,forall_eq_or_imp,forall_eq,if_true,Option.isSome_some,List.length_cons,List.length_nil,Nat.reduceAdd,Nat.reduceLeDiff,Nat.reduceMul,Value.oneCell',‹Tys _›.h,‹Fc _›.h]
  repeat (refine andA ?_)
  refine k _ ?_
  clear k K
  exact b.h):A:=e b
theorem zsAppend {A B:Prop} (b:Ho B) (e:Ho B→A:=by
  intro b
  intro K k
  simp only [zE,zL,zO,zN,aStepM,optable,set_some,Nat.reduceEqDiff,reduceIte,Nat.reduceLT,implies_true,forall_const,reduceCtorEq,V.ofValue,V.ofScalar,V.un,V.gd,aExec,aop,fillK_thin,beq_self_eq_true,List.nodup_cons,List.mem_singleton,forall_eq',List.size_toArray,List.getD_eq_getElem?_getD,Array.getD_eq_getD_getElem?,Option.getD_some,aAppend,destOf,srcOf,takeElems,takeV,takeCell,takeCells,row_mk,Blk.row,killAll,V.isSub,V.noSl,Value.cells,Option.toList,List.forall_mem_map,List.length_map,List.all_cons,List.all_nil,List.isEmpty_nil,List.isEmpty_cons,List.not_mem_nil,List.nodup_nil,join_ff,join_ft,join_fv,join_d,join_s,fillK_join0,fillK_join,List.mem_cons,or_false,forall_eq_or_imp,forall_eq,List.set_cons_zero,List.set_cons_succ,List.length_append,Go.Vm.V.cells,Nat.reduceAdd,Nat.reduceLeDiff,Nat.reduceMul,contentL,Value.oneCell',‹Tys _›.h,‹Fc _›.h]
  repeat (refine andA ?_)
  refine k _ ?_
  clear k K
  exact b.h):A:=e b
theorem zsSlice {A B:Prop} (b:Ho B) (e:Ho B→A:=by
  intro b
  intro K k
  simp only [zE,zL,zN,aStepM,optable,set_some,Nat.reduceEqDiff,reduceIte,Nat.reduceLT,implies_true,forall_const,reduceCtorEq,V.ofValue,V.ofScalar,V.un,V.gd,aExec,aop,List.set_cons_zero,List.set_cons_succ,aSlice,forall_eq',bound,ElemsOK,Option.map_none,Option.isNone_none,row_mk,Blk.row,TypeDesc.slice.injEq,List.forall_mem_map,List.length_map,Go.Vm.V.cells,Int.toNat_natCast,Int.reduceToNat,←List.map_take,←List.map_drop,List.take_length,Nat.reduceAdd,Nat.reduceLeDiff,Nat.reduceMul,contentL,Value.oneCell',List.all_cons,List.all_nil,Bool.and_self,‹Tys _›.h,‹Fc _›.h]
  repeat (refine andA ?_)
  refine k _ ?_
  clear k K
  exact b.h):A:=e b
theorem zsc {C A B:Prop} (con:C) (b:Ho B) (e:C→Ho B→A:=by
  intro con b K k
  simp only [zE,zM,aStepM,optable,set_some,Nat.reduceEqDiff,reduceIte,Nat.reduceLT,implies_true,forall_const,reduceCtorEq,V.ofValue,V.ofScalar,V.un,V.gd,aExec,lentIds,lendOf,‹Tys _›.h,‹Fc _›.h]
  repeat (refine andC ?_)
  refine aCall_new con (by first | rfl | (simp only [toArgs,toArg,toCell,toCells,toRows,Option.map_some,idx,row_mk,List.getElem?_cons_zero,List.getElem?_cons_succ,Option.bind_some,Blk.row,fillK_mix,thK_mix,flat_mix,deep_mix,thin_mix,shal_mix,cond_true,List.map_take];done) | (simp [toArgs,toArg,toCell,toCells,toRows,idx,row_mk,Blk.row,fillK_mix,thK_mix,flat_mix,deep_mix,thin_mix,shal_mix,Nat.beq_refl];done)) (by first | exact .inl ⟨rfl,by simp [Blk.kindIs,fillK_fd,thK_fd]⟩ | exact .inr (by simp [V.cold])) ?_
  refine k _ ?_
  clear k K
  simp only [zY,zW,set_some,Nat.reduceEqDiff,reduceIte,V.ren,V.renL,rho,Nat.reduceAdd]
  exact b.h):A:=e con b
theorem row_all {O:List Blk} {t:St} (h:Grow O t.O):∀i,(O[i]?).isSome=true→t.row i=(O[i]?).bind Blk.row:=by
  intro i hi
  unfold St.row
  cases hb:O[i]? with
  | none=>rw [hb] at hi;cases hi
  | some b=>rw [h i b hb]
theorem zdMove {P:Program} {L:Lend} {rg:Array Oper} {K:St→Prop} {fuel:Nat} {listed:Array Bool} {env:List (Nat×V)} {O:List Blk} {vw:Bool} {n m:Nat} {oi:Oper} {rest:List Oper} {v:V} (hK:∀s t,EqS s t→K s→K t) (kp:Bool) (i d:Nat)
    (b:aAny P L rg K fuel (listed.setIfInBounds i true) ⟨(d,v)::env,O,vw,n,m⟩) (hi:rg.toList.drop i=oi::rest:=by rfl) (hd:oi.dst=some d:=by rfl) (hf:Region.freeG L kp rg listed i=true:=by kernel_rfl) (hr:(Region.ready .any rg listed).contains i=true:=by kernel_rfl)
    (hp:PureH P L rg kp oi d v ⟨env,O,vw,n,m⟩:=by
      intro t hn gx ho K' k'
      dsimp only at hn
      refine .inl ?_
      simp (disch:=first | decide | rfl) only [gx,zE,aStepM,optable,Nat.reduceEqDiff,reduceIte,Nat.reduceLT,implies_true,forall_const,reduceCtorEq,V.ofValue,V.ofScalar,V.un,V.gd,aExec,aop,contentL,Value.oneCell',List.all_cons,List.all_nil,Bool.and_self,‹Tys _›.h,‹Fc _›.h]
      repeat (refine andA ?_)
      exact k'):aAny P L rg K (fuel+1) listed ⟨env,O,vw,n,m⟩:=aAny_take hK kp i d hi hd hf hr ⟨v,hp,b⟩
theorem zdgMove {P:Program} {L:Lend} {rg:Array Oper} {K:St→Prop} {fuel:Nat} {listed:Array Bool} {env:List (Nat×V)} {O:List Blk} {vw:Bool} {n m:Nat} {oi:Oper} {rest:List Oper} {v:V} (hK:∀s t,EqS s t→K s→K t) (kp:Bool) (i d:Nat)
    (b:aAny P L rg K fuel (listed.setIfInBounds i true) ⟨(d,v)::env,O,vw,n,m⟩) (hi:rg.toList.drop i=oi::rest:=by rfl) (hd:oi.dst=some d:=by rfl) (hf:Region.freeG L kp rg listed i=true:=by kernel_rfl) (hr:(Region.ready .any rg listed).contains i=true:=by kernel_rfl)
    (hp : PureH P L rg kp oi d v ⟨env,O,vw,n,m⟩:=by
      intro t hn gx ho K' k'
      dsimp only at hn
      first
      | refine .inr ⟨?_,_,_,false,rfl,?_,nofun,fun _=>⟨.any,k'⟩⟩
        · simp only [hn,dst_some,Nat.reduceLT]
        · first | rfl | (simp (disch:=decide) only [gx,zV,guardV,Nat.reduceEqDiff,reduceIte];done)
      | skip
        refine .inl ?_
        simp (disch:=first | decide | rfl) only [gx,zE,zG,aStepM,optable,Nat.reduceEqDiff,reduceIte,Nat.reduceLT,implies_true,forall_const,reduceCtorEq,V.ofValue,V.ofScalar,V.un,V.gd,guardV,V.wrap,aExec,aop,contentL,Value.oneCell',List.all_cons,List.all_nil,Bool.and_self,‹Tys _›.h,‹Fc _›.h]
        repeat (refine andA ?_)
        exact k'):aAny P L rg K (fuel+1) listed ⟨env,O,vw,n,m⟩:=aAny_take hK kp i d hi hd hf hr ⟨v,hp,b⟩
theorem zdPick {P:Program} {L:Lend} {rg:Array Oper} {K:St→Prop} {fuel:Nat} {listed:Array Bool} {env:List (Nat×V)} {O:List Blk} {vw:Bool} {n m:Nat} {oi:Oper} {rest:List Oper} {v:V} (hK:∀s t,EqS s t→K s→K t) (kp:Bool) (i d:Nat)
    (b:aAny P L rg K fuel (listed.setIfInBounds i true) ⟨(d,v)::env,O,vw,n,m⟩) (hi:rg.toList.drop i=oi::rest:=by rfl) (hd:oi.dst=some d:=by rfl) (hf:Region.freeG L kp rg listed i=true:=by kernel_rfl) (hr:(Region.ready .any rg listed).contains i=true:=by kernel_rfl)
    (hp:PureH P L rg kp oi d v ⟨env,O,vw,n,m⟩:=by
      intro t hn gx ho K' k'
      dsimp only at hn
      refine .inl ?_
      simp (disch:=first | decide | rfl) only [gx,zE,zP,aStepM,optable,Nat.reduceEqDiff,reduceIte,Nat.reduceLT,implies_true,forall_const,reduceCtorEq,V.ofValue,V.ofScalar,V.un,V.gd,aExec,aop,pickV,contentL,Value.oneCell',List.all_cons,List.all_nil,Bool.and_self,‹Tys _›.h,‹Fc _›.h]
      repeat (refine andA ?_)
      exact k'):aAny P L rg K (fuel+1) listed ⟨env,O,vw,n,m⟩:=aAny_take hK kp i d hi hd hf hr ⟨v,hp,b⟩
theorem zdgPick {P:Program} {L:Lend} {rg:Array Oper} {K:St→Prop} {fuel:Nat} {listed:Array Bool} {env:List (Nat×V)} {O:List Blk} {vw:Bool} {n m:Nat} {oi:Oper} {rest:List Oper} {v:V} (hK:∀s t,EqS s t→K s→K t) (kp:Bool) (i d:Nat)
    (b:aAny P L rg K fuel (listed.setIfInBounds i true) ⟨(d,v)::env,O,vw,n,m⟩) (hi:rg.toList.drop i=oi::rest:=by rfl) (hd:oi.dst=some d:=by rfl) (hf:Region.freeG L kp rg listed i=true:=by kernel_rfl) (hr:(Region.ready .any rg listed).contains i=true:=by kernel_rfl)
    (hp : PureH P L rg kp oi d v ⟨env,O,vw,n,m⟩:=by
      intro t hn gx ho K' k'
      dsimp only at hn
      first
      | refine .inr ⟨?_,_,_,false,rfl,?_,nofun,fun _=>⟨.any,k'⟩⟩
        · simp only [hn,dst_some,Nat.reduceLT]
        · first | rfl | (simp (disch:=decide) only [gx,zV,guardV,Nat.reduceEqDiff,reduceIte];done)
      | skip
        refine .inl ?_
        simp (disch:=first | decide | rfl) only [gx,zE,zP,zG,aStepM,optable,Nat.reduceEqDiff,reduceIte,Nat.reduceLT,implies_true,forall_const,reduceCtorEq,V.ofValue,V.ofScalar,V.un,V.gd,guardV,V.wrap,aExec,aop,pickV,contentL,Value.oneCell',List.all_cons,List.all_nil,Bool.and_self,‹Tys _›.h,‹Fc _›.h]
        repeat (refine andA ?_)
        exact k'):aAny P L rg K (fuel+1) listed ⟨env,O,vw,n,m⟩:=aAny_take hK kp i d hi hd hf hr ⟨v,hp,b⟩
theorem zdLoad {P:Program} {L:Lend} {rg:Array Oper} {K:St→Prop} {fuel:Nat} {listed:Array Bool} {env:List (Nat×V)} {O:List Blk} {vw:Bool} {n m:Nat} {oi:Oper} {rest:List Oper} {v:V} (hK:∀s t,EqS s t→K s→K t) (kp:Bool) (i d:Nat)
    (b:aAny P L rg K fuel (listed.setIfInBounds i true) ⟨(d,v)::env,O,vw,n,m⟩) (hi:rg.toList.drop i=oi::rest:=by rfl) (hd:oi.dst=some d:=by rfl) (hf:Region.freeG L kp rg listed i=true:=by kernel_rfl) (hr:(Region.ready .any rg listed).contains i=true:=by kernel_rfl)
    (hp:PureH P L rg kp oi d v ⟨env,O,vw,n,m⟩:=by
      intro t hn gx ho K' k'
      dsimp only at hn
      first | have r0:=row_all (ho rfl) 0 rfl | have r0:=True.intro
      first | have r1:=row_all (ho rfl) 1 rfl | have r1:=True.intro
      first | have r2:=row_all (ho rfl) 2 rfl | have r2:=True.intro
      first | have r3:=row_all (ho rfl) 3 rfl | have r3:=True.intro
      first | have r4:=row_all (ho rfl) 4 rfl | have r4:=True.intro
      first | have r5:=row_all (ho rfl) 5 rfl | have r5:=True.intro
      refine .inl ?_
      simp (disch:=first | decide | rfl) only [gx,r0,r1,r2,r3,r4,r5,zE,zL,zO,zN,aStepM,optable,Nat.reduceEqDiff,reduceIte,Nat.reduceLT,implies_true,forall_const,reduceCtorEq,V.ofValue,V.ofScalar,V.un,V.gd,aExec,aop,aLoad,row_mk,Blk.row,PartOK,Go.Vm.part,V.cells,V.noSl,V.noRef,Nat.reduceAdd,Nat.reduceLeDiff,Nat.reduceMul,contentL,Value.oneCell',List.all_cons,List.all_nil,‹Tys _›.h,‹Fc _›.h]
      repeat (refine andA ?_)
      exact k'):aAny P L rg K (fuel+1) listed ⟨env,O,vw,n,m⟩:=aAny_take hK kp i d hi hd hf hr ⟨v,hp,b⟩
theorem zdLoadX {P:Program} {L:Lend} {rg:Array Oper} {K:St→Prop} {fuel:Nat} {listed:Array Bool} {env:List (Nat×V)} {O:List Blk} {vw:Bool} {n m:Nat} {oi:Oper} {rest:List Oper} {v:V} (hK:∀s t,EqS s t→K s→K t) (kp:Bool) (i d:Nat)
    (b:aAny P L rg K fuel (listed.setIfInBounds i true) ⟨(d,v)::env,O,vw,n,m⟩) (hi:rg.toList.drop i=oi::rest:=by rfl) (hd:oi.dst=some d:=by rfl) (hf:Region.freeG L kp rg listed i=true:=by kernel_rfl) (hr:(Region.ready .any rg listed).contains i=true:=by kernel_rfl)
    (hp:PureH P L rg kp oi d v ⟨env,O,vw,n,m⟩:=by
      intro t hn gx ho K' k'
      dsimp only at hn
      first | have r0:=row_all (ho rfl) 0 rfl | have r0:=True.intro
      first | have r1:=row_all (ho rfl) 1 rfl | have r1:=True.intro
      first | have r2:=row_all (ho rfl) 2 rfl | have r2:=True.intro
      first | have r3:=row_all (ho rfl) 3 rfl | have r3:=True.intro
      first | have r4:=row_all (ho rfl) 4 rfl | have r4:=True.intro
      first | have r5:=row_all (ho rfl) 5 rfl | have r5:=True.intro
      first | have r6:=row_all (ho rfl) 6 rfl | have r6:=True.intro
      first | have r7:=row_all (ho rfl) 7 rfl | have r7:=True.intro
      first | have r8:=row_all (ho rfl) 8 rfl | have r8:=True.intro
      first | have r9:=row_all (ho rfl) 9 rfl | have r9:=True.intro
      first | have r10:=row_all (ho rfl) 10 rfl | have r10:=True.intro
      first | have r11:=row_all (ho rfl) 11 rfl | have r11:=True.intro
      first | have r12:=row_all (ho rfl) 12 rfl | have r12:=True.intro
      first | have r13:=row_all (ho rfl) 13 rfl | have r13:=True.intro
      first | have r14:=row_all (ho rfl) 14 rfl | have r14:=True.intro
      first | have r15:=row_all (ho rfl) 15 rfl | have r15:=True.intro
      first | have r16:=row_all (ho rfl) 16 rfl | have r16:=True.intro
      first | have r17:=row_all (ho rfl) 17 rfl | have r17:=True.intro
      first | have r18:=row_all (ho rfl) 18 rfl | have r18:=True.intro
      first | have r19:=row_all (ho rfl) 19 rfl | have r19:=True.intro
      first | have r20:=row_all (ho rfl) 20 rfl | have r20:=True.intro
      first | have r21:=row_all (ho rfl) 21 rfl | have r21:=True.intro
      first | have r22:=row_all (ho rfl) 22 rfl | have r22:=True.intro
      first | have r23:=row_all (ho rfl) 23 rfl | have r23:=True.intro
      refine .inl ?_
      simp (disch:=first | decide | rfl) only [gx,r0,r1,r2,r3,r4,r5,zE,zL,zO,zN,r6,r7,r8,r9,r10,r11,r12,r13,r14,r15,r16,r17,r18,r19,r20,r21,r22,r23,aStepM,optable,Nat.reduceEqDiff,reduceIte,Nat.reduceLT,implies_true,forall_const,reduceCtorEq,V.ofValue,V.ofScalar,V.un,V.gd,aExec,aop,aLoad,row_mk,Blk.row,PartOK,Go.Vm.part,V.cells,V.noSl,V.noRef,Nat.reduceAdd,Nat.reduceLeDiff,Nat.reduceMul,contentL,Value.oneCell',List.all_cons,List.all_nil,‹Tys _›.h,‹Fc _›.h]
      repeat (refine andA ?_)
      exact k'):aAny P L rg K (fuel+1) listed ⟨env,O,vw,n,m⟩:=aAny_take hK kp i d hi hd hf hr ⟨v,hp,b⟩
theorem zdgLoad {P:Program} {L:Lend} {rg:Array Oper} {K:St→Prop} {fuel:Nat} {listed:Array Bool} {env:List (Nat×V)} {O:List Blk} {vw:Bool} {n m:Nat} {oi:Oper} {rest:List Oper} {v:V} (hK:∀s t,EqS s t→K s→K t) (kp:Bool) (i d:Nat)
    (b:aAny P L rg K fuel (listed.setIfInBounds i true) ⟨(d,v)::env,O,vw,n,m⟩) (hi:rg.toList.drop i=oi::rest:=by rfl) (hd:oi.dst=some d:=by rfl) (hf:Region.freeG L kp rg listed i=true:=by kernel_rfl) (hr:(Region.ready .any rg listed).contains i=true:=by kernel_rfl)
    (hp : PureH P L rg kp oi d v ⟨env,O,vw,n,m⟩:=by
      intro t hn gx ho K' k'
      dsimp only at hn
      first | have r0:=row_all (ho rfl) 0 rfl | have r0:=True.intro
      first | have r1:=row_all (ho rfl) 1 rfl | have r1:=True.intro
      first | have r2:=row_all (ho rfl) 2 rfl | have r2:=True.intro
      first | have r3:=row_all (ho rfl) 3 rfl | have r3:=True.intro
      first | have r4:=row_all (ho rfl) 4 rfl | have r4:=True.intro
      first | have r5:=row_all (ho rfl) 5 rfl | have r5:=True.intro
      first
      | refine .inr ⟨?_,_,_,false,rfl,?_,nofun,fun _=>⟨.any,k'⟩⟩
        · simp only [hn,dst_some,Nat.reduceLT]
        · first | rfl | (simp (disch:=decide) only [gx,zV,guardV,Nat.reduceEqDiff,reduceIte];done)
      | skip
        refine .inl ?_
        simp (disch:=first | decide | rfl) only [gx,r0,r1,r2,r3,r4,r5,zE,zL,zO,zN,aStepM,optable,Nat.reduceEqDiff,reduceIte,Nat.reduceLT,implies_true,forall_const,reduceCtorEq,V.ofValue,V.ofScalar,V.un,V.gd,guardV,V.wrap,aExec,aop,aLoad,row_mk,Blk.row,PartOK,Go.Vm.part,V.cells,V.noSl,V.noRef,Nat.reduceAdd,Nat.reduceLeDiff,Nat.reduceMul,contentL,Value.oneCell',List.all_cons,List.all_nil,‹Tys _›.h,‹Fc _›.h]
        repeat (refine andA ?_)
        exact k'):aAny P L rg K (fuel+1) listed ⟨env,O,vw,n,m⟩:=aAny_take hK kp i d hi hd hf hr ⟨v,hp,b⟩
theorem zdgLoadX {P:Program} {L:Lend} {rg:Array Oper} {K:St→Prop} {fuel:Nat} {listed:Array Bool} {env:List (Nat×V)} {O:List Blk} {vw:Bool} {n m:Nat} {oi:Oper} {rest:List Oper} {v:V} (hK:∀s t,EqS s t→K s→K t) (kp:Bool) (i d:Nat)
    (b:aAny P L rg K fuel (listed.setIfInBounds i true) ⟨(d,v)::env,O,vw,n,m⟩) (hi:rg.toList.drop i=oi::rest:=by rfl) (hd:oi.dst=some d:=by rfl) (hf:Region.freeG L kp rg listed i=true:=by kernel_rfl) (hr:(Region.ready .any rg listed).contains i=true:=by kernel_rfl)
    (hp : PureH P L rg kp oi d v ⟨env,O,vw,n,m⟩:=by
      intro t hn gx ho K' k'
      dsimp only at hn
      first | have r0:=row_all (ho rfl) 0 rfl | have r0:=True.intro
      first | have r1:=row_all (ho rfl) 1 rfl | have r1:=True.intro
      first | have r2:=row_all (ho rfl) 2 rfl | have r2:=True.intro
      first | have r3:=row_all (ho rfl) 3 rfl | have r3:=True.intro
      first | have r4:=row_all (ho rfl) 4 rfl | have r4:=True.intro
      first | have r5:=row_all (ho rfl) 5 rfl | have r5:=True.intro
      first | have r6:=row_all (ho rfl) 6 rfl | have r6:=True.intro
      first | have r7:=row_all (ho rfl) 7 rfl | have r7:=True.intro
      first | have r8:=row_all (ho rfl) 8 rfl | have r8:=True.intro
      first | have r9:=row_all (ho rfl) 9 rfl | have r9:=True.intro
      first | have r10:=row_all (ho rfl) 10 rfl | have r10:=True.intro
      first | have r11:=row_all (ho rfl) 11 rfl | have r11:=True.intro
      first | have r12:=row_all (ho rfl) 12 rfl | have r12:=True.intro
      first | have r13:=row_all (ho rfl) 13 rfl | have r13:=True.intro
      first | have r14:=row_all (ho rfl) 14 rfl | have r14:=True.intro
      first | have r15:=row_all (ho rfl) 15 rfl | have r15:=True.intro
      first | have r16:=row_all (ho rfl) 16 rfl | have r16:=True.intro
      first | have r17:=row_all (ho rfl) 17 rfl | have r17:=True.intro
      first | have r18:=row_all (ho rfl) 18 rfl | have r18:=True.intro
      first | have r19:=row_all (ho rfl) 19 rfl | have r19:=True.intro
      first | have r20:=row_all (ho rfl) 20 rfl | have r20:=True.intro
      first | have r21:=row_all (ho rfl) 21 rfl | have r21:=True.intro
      first | have r22:=row_all (ho rfl) 22 rfl | have r22:=True.intro
      first | have r23:=row_all (ho rfl) 23 rfl | have r23:=True.intro
      first
      | refine .inr ⟨?_,_,_,false,rfl,?_,nofun,fun _=>⟨.any,k'⟩⟩
        · simp only [hn,dst_some,Nat.reduceLT]
        · first | rfl | (simp (disch:=decide) only [gx,zV,guardV,Nat.reduceEqDiff,reduceIte];done)
      | skip
        refine .inl ?_
        simp (disch:=first | decide | rfl) only [gx,r0,r1,r2,r3,r4,r5,zE,zL,zO,zN,r6,r7,r8,r9,r10,r11,r12,r13,r14,r15,r16,r17,r18,r19,r20,r21,r22,r23,aStepM,optable,Nat.reduceEqDiff,reduceIte,Nat.reduceLT,implies_true,forall_const,reduceCtorEq,V.ofValue,V.ofScalar,V.un,V.gd,guardV,V.wrap,aExec,aop,aLoad,row_mk,Blk.row,PartOK,Go.Vm.part,V.cells,V.noSl,V.noRef,Nat.reduceAdd,Nat.reduceLeDiff,Nat.reduceMul,contentL,Value.oneCell',List.all_cons,List.all_nil,‹Tys _›.h,‹Fc _›.h]
        repeat (refine andA ?_)
        exact k'):aAny P L rg K (fuel+1) listed ⟨env,O,vw,n,m⟩:=aAny_take hK kp i d hi hd hf hr ⟨v,hp,b⟩
theorem zdNilCheck {P:Program} {L:Lend} {rg:Array Oper} {K:St→Prop} {fuel:Nat} {listed:Array Bool} {env:List (Nat×V)} {O:List Blk} {vw:Bool} {n m:Nat} {oi:Oper} {rest:List Oper} {v:V} (hK:∀s t,EqS s t→K s→K t) (kp:Bool) (i d:Nat)
    (b:aAny P L rg K fuel (listed.setIfInBounds i true) ⟨(d,v)::env,O,vw,n,m⟩) (hi:rg.toList.drop i=oi::rest:=by rfl) (hd:oi.dst=some d:=by rfl) (hf:Region.freeG L kp rg listed i=true:=by kernel_rfl) (hr:(Region.ready .any rg listed).contains i=true:=by kernel_rfl)
    (hp:PureH P L rg kp oi d v ⟨env,O,vw,n,m⟩:=by
      intro t hn gx ho K' k'
      dsimp only at hn
      refine .inl ?_
      simp (disch:=first | decide | rfl) only [gx,zE,aStepM,optable,Nat.reduceEqDiff,reduceIte,Nat.reduceLT,implies_true,forall_const,reduceCtorEq,V.ofValue,V.ofScalar,V.un,V.gd,aExec,aop,contentL,Value.oneCell',List.all_cons,List.all_nil,Bool.and_self,‹Tys _›.h,‹Fc _›.h]
      repeat (refine andA ?_)
      exact k'):aAny P L rg K (fuel+1) listed ⟨env,O,vw,n,m⟩:=aAny_take hK kp i d hi hd hf hr ⟨v,hp,b⟩
theorem zdBinOp {P:Program} {L:Lend} {rg:Array Oper} {K:St→Prop} {fuel:Nat} {listed:Array Bool} {env:List (Nat×V)} {O:List Blk} {vw:Bool} {n m:Nat} {oi:Oper} {rest:List Oper} {v:V} (hK:∀s t,EqS s t→K s→K t) (kp:Bool) (i d:Nat)
    (b:aAny P L rg K fuel (listed.setIfInBounds i true) ⟨(d,v)::env,O,vw,n,m⟩) (hi:rg.toList.drop i=oi::rest:=by rfl) (hd:oi.dst=some d:=by rfl) (hf:Region.freeG L kp rg listed i=true:=by kernel_rfl) (hr:(Region.ready .any rg listed).contains i=true:=by kernel_rfl)
    (hp:PureH P L rg kp oi d v ⟨env,O,vw,n,m⟩:=by
      intro t hn gx ho K' k'
      dsimp only at hn
      refine .inl ?_
      simp (disch:=first | decide | rfl) only [gx,zE,aStepM,optable,Nat.reduceEqDiff,reduceIte,Nat.reduceLT,implies_true,forall_const,reduceCtorEq,V.ofValue,V.ofScalar,V.un,V.gd,aExec,aop,aBin,isNil,or_true,true_or,or_false,false_or,EK.fitsL,EK.fits,cellsEq,cellEq,contentL,Value.oneCell',List.all_cons,List.all_nil,Bool.and_self,‹Tys _›.h,‹Fc _›.h]
      repeat (refine andA ?_)
      exact k'):aAny P L rg K (fuel+1) listed ⟨env,O,vw,n,m⟩:=aAny_take hK kp i d hi hd hf hr ⟨v,hp,b⟩
theorem zdBinOpW {P:Program} {L:Lend} {rg:Array Oper} {K:St→Prop} {fuel:Nat} {listed:Array Bool} {env:List (Nat×V)} {O:List Blk} {vw:Bool} {n m:Nat} {oi:Oper} {rest:List Oper} {v:V} (hK:∀s t,EqS s t→K s→K t) (kp:Bool) (i d:Nat)
    (b:aAny P L rg K fuel (listed.setIfInBounds i true) ⟨(d,v)::env,O,vw,n,m⟩) (hi:rg.toList.drop i=oi::rest:=by rfl) (hd:oi.dst=some d:=by rfl) (hf:Region.freeG L kp rg listed i=true:=by kernel_rfl) (hr:(Region.ready .any rg listed).contains i=true:=by kernel_rfl)
    (hp:PureH P L rg kp oi d v ⟨env,O,vw,n,m⟩:=by
      intro t hn gx ho K' k'
      dsimp only at hn
      refine .inl ?_
      simp (disch:=first | decide | rfl) only [gx,zE,aStepM,optable,Nat.reduceEqDiff,reduceIte,Nat.reduceLT,implies_true,forall_const,reduceCtorEq,V.ofValue,V.ofScalar,V.un,V.gd,aExec,aop,aBin,isNil,or_true,true_or,or_false,false_or,EK.fitsL,EK.fits,cellsEq,cellEq,contentL,Value.oneCell',List.all_cons,List.all_nil,Bool.and_self,‹Tys _›.h,‹Fc _›.h]
      try simp (disch:=omega) only [wrap64]
      repeat (refine andA ?_)
      exact k'):aAny P L rg K (fuel+1) listed ⟨env,O,vw,n,m⟩:=aAny_take hK kp i d hi hd hf hr ⟨v,hp,b⟩
theorem zdgBinOp {P:Program} {L:Lend} {rg:Array Oper} {K:St→Prop} {fuel:Nat} {listed:Array Bool} {env:List (Nat×V)} {O:List Blk} {vw:Bool} {n m:Nat} {oi:Oper} {rest:List Oper} {v:V} (hK:∀s t,EqS s t→K s→K t) (kp:Bool) (i d:Nat)
    (b:aAny P L rg K fuel (listed.setIfInBounds i true) ⟨(d,v)::env,O,vw,n,m⟩) (hi:rg.toList.drop i=oi::rest:=by rfl) (hd:oi.dst=some d:=by rfl) (hf:Region.freeG L kp rg listed i=true:=by kernel_rfl) (hr:(Region.ready .any rg listed).contains i=true:=by kernel_rfl)
    (hp : PureH P L rg kp oi d v ⟨env,O,vw,n,m⟩:=by
      intro t hn gx ho K' k'
      dsimp only at hn
      first
      | refine .inr ⟨?_,_,_,false,rfl,?_,nofun,fun _=>⟨.any,k'⟩⟩
        · simp only [hn,dst_some,Nat.reduceLT]
        · first | rfl | (simp (disch:=decide) only [gx,zV,guardV,Nat.reduceEqDiff,reduceIte];done)
      | skip
        refine .inl ?_
        simp (disch:=first | decide | rfl) only [gx,zE,zG,aStepM,optable,Nat.reduceEqDiff,reduceIte,Nat.reduceLT,implies_true,forall_const,reduceCtorEq,V.ofValue,V.ofScalar,V.un,V.gd,guardV,V.wrap,aExec,aop,aBin,isNil,or_true,true_or,or_false,false_or,EK.fitsL,EK.fits,cellsEq,cellEq,contentL,Value.oneCell',List.all_cons,List.all_nil,Bool.and_self,‹Tys _›.h,‹Fc _›.h]
        repeat (refine andA ?_)
        exact k'):aAny P L rg K (fuel+1) listed ⟨env,O,vw,n,m⟩:=aAny_take hK kp i d hi hd hf hr ⟨v,hp,b⟩
theorem zdgBinOpW {P:Program} {L:Lend} {rg:Array Oper} {K:St→Prop} {fuel:Nat} {listed:Array Bool} {env:List (Nat×V)} {O:List Blk} {vw:Bool} {n m:Nat} {oi:Oper} {rest:List Oper} {v:V} (hK:∀s t,EqS s t→K s→K t) (kp:Bool) (i d:Nat)
    (b:aAny P L rg K fuel (listed.setIfInBounds i true) ⟨(d,v)::env,O,vw,n,m⟩) (hi:rg.toList.drop i=oi::rest:=by rfl) (hd:oi.dst=some d:=by rfl) (hf:Region.freeG L kp rg listed i=true:=by kernel_rfl) (hr:(Region.ready .any rg listed).contains i=true:=by kernel_rfl)
    (hp : PureH P L rg kp oi d v ⟨env,O,vw,n,m⟩:=by
      intro t hn gx ho K' k'
      dsimp only at hn
      first
      | refine .inr ⟨?_,_,_,false,rfl,?_,nofun,fun _=>⟨.any,k'⟩⟩
        · simp only [hn,dst_some,Nat.reduceLT]
        · first | rfl | (simp (disch:=decide) only [gx,zV,guardV,Nat.reduceEqDiff,reduceIte];done)
      | skip
        refine .inl ?_
        simp (disch:=first | decide | rfl) only [gx,zE,zG,aStepM,optable,Nat.reduceEqDiff,reduceIte,Nat.reduceLT,implies_true,forall_const,reduceCtorEq,V.ofValue,V.ofScalar,V.un,V.gd,guardV,V.wrap,aExec,aop,aBin,isNil,or_true,true_or,or_false,false_or,EK.fitsL,EK.fits,cellsEq,cellEq,contentL,Value.oneCell',List.all_cons,List.all_nil,Bool.and_self,‹Tys _›.h,‹Fc _›.h]
        try simp (disch:=omega) only [wrap64]
        repeat (refine andA ?_)
        exact k'):aAny P L rg K (fuel+1) listed ⟨env,O,vw,n,m⟩:=aAny_take hK kp i d hi hd hf hr ⟨v,hp,b⟩
theorem zdUnOp {P:Program} {L:Lend} {rg:Array Oper} {K:St→Prop} {fuel:Nat} {listed:Array Bool} {env:List (Nat×V)} {O:List Blk} {vw:Bool} {n m:Nat} {oi:Oper} {rest:List Oper} {v:V} (hK:∀s t,EqS s t→K s→K t) (kp:Bool) (i d:Nat)
    (b:aAny P L rg K fuel (listed.setIfInBounds i true) ⟨(d,v)::env,O,vw,n,m⟩) (hi:rg.toList.drop i=oi::rest:=by rfl) (hd:oi.dst=some d:=by rfl) (hf:Region.freeG L kp rg listed i=true:=by kernel_rfl) (hr:(Region.ready .any rg listed).contains i=true:=by kernel_rfl)
    (hp:PureH P L rg kp oi d v ⟨env,O,vw,n,m⟩:=by
      intro t hn gx ho K' k'
      dsimp only at hn
      refine .inl ?_
      simp (disch:=first | decide | rfl) only [gx,zE,aStepM,optable,Nat.reduceEqDiff,reduceIte,Nat.reduceLT,implies_true,forall_const,reduceCtorEq,V.ofValue,V.ofScalar,V.un,V.gd,aExec,aop,aUn,contentL,Value.oneCell',List.all_cons,List.all_nil,Bool.and_self,‹Tys _›.h,‹Fc _›.h]
      repeat (refine andA ?_)
      exact k'):aAny P L rg K (fuel+1) listed ⟨env,O,vw,n,m⟩:=aAny_take hK kp i d hi hd hf hr ⟨v,hp,b⟩
theorem zdgUnOp {P:Program} {L:Lend} {rg:Array Oper} {K:St→Prop} {fuel:Nat} {listed:Array Bool} {env:List (Nat×V)} {O:List Blk} {vw:Bool} {n m:Nat} {oi:Oper} {rest:List Oper} {v:V} (hK:∀s t,EqS s t→K s→K t) (kp:Bool) (i d:Nat)
    (b:aAny P L rg K fuel (listed.setIfInBounds i true) ⟨(d,v)::env,O,vw,n,m⟩) (hi:rg.toList.drop i=oi::rest:=by rfl) (hd:oi.dst=some d:=by rfl) (hf:Region.freeG L kp rg listed i=true:=by kernel_rfl) (hr:(Region.ready .any rg listed).contains i=true:=by kernel_rfl)
    (hp : PureH P L rg kp oi d v ⟨env,O,vw,n,m⟩:=by
      intro t hn gx ho K' k'
      dsimp only at hn
      first
      | refine .inr ⟨?_,_,_,false,rfl,?_,nofun,fun _=>⟨.any,k'⟩⟩
        · simp only [hn,dst_some,Nat.reduceLT]
        · first | rfl | (simp (disch:=decide) only [gx,zV,guardV,Nat.reduceEqDiff,reduceIte];done)
      | skip
        refine .inl ?_
        simp (disch:=first | decide | rfl) only [gx,zE,zG,aStepM,optable,Nat.reduceEqDiff,reduceIte,Nat.reduceLT,implies_true,forall_const,reduceCtorEq,V.ofValue,V.ofScalar,V.un,V.gd,guardV,V.wrap,aExec,aop,aUn,contentL,Value.oneCell',List.all_cons,List.all_nil,Bool.and_self,‹Tys _›.h,‹Fc _›.h]
        repeat (refine andA ?_)
        exact k'):aAny P L rg K (fuel+1) listed ⟨env,O,vw,n,m⟩:=aAny_take hK kp i d hi hd hf hr ⟨v,hp,b⟩
theorem zdFieldAddr {P:Program} {L:Lend} {rg:Array Oper} {K:St→Prop} {fuel:Nat} {listed:Array Bool} {env:List (Nat×V)} {O:List Blk} {vw:Bool} {n m:Nat} {oi:Oper} {rest:List Oper} {v:V} (hK:∀s t,EqS s t→K s→K t) (kp:Bool) (i d:Nat)
    (b:aAny P L rg K fuel (listed.setIfInBounds i true) ⟨(d,v)::env,O,vw,n,m⟩) (hi:rg.toList.drop i=oi::rest:=by rfl) (hd:oi.dst=some d:=by rfl) (hf:Region.freeG L kp rg listed i=true:=by kernel_rfl) (hr:(Region.ready .any rg listed).contains i=true:=by kernel_rfl)
    (hp:PureH P L rg kp oi d v ⟨env,O,vw,n,m⟩:=by
      intro t hn gx ho K' k'
      dsimp only at hn
      refine .inl ?_
      simp (disch:=first | decide | rfl) only [gx,zE,zL,zN,aStepM,optable,Nat.reduceEqDiff,reduceIte,Nat.reduceLT,implies_true,forall_const,reduceCtorEq,V.ofValue,V.ofScalar,V.un,V.gd,aExec,aop,aFieldAddr,Nat.reduceAdd,Nat.reduceLeDiff,Nat.reduceMul,contentL,Value.oneCell',List.all_cons,List.all_nil,Bool.and_self,‹Tys _›.h,‹Fc _›.h]
      repeat (refine andA ?_)
      exact k'):aAny P L rg K (fuel+1) listed ⟨env,O,vw,n,m⟩:=aAny_take hK kp i d hi hd hf hr ⟨v,hp,b⟩
theorem zdgFieldAddr {P:Program} {L:Lend} {rg:Array Oper} {K:St→Prop} {fuel:Nat} {listed:Array Bool} {env:List (Nat×V)} {O:List Blk} {vw:Bool} {n m:Nat} {oi:Oper} {rest:List Oper} {v:V} (hK:∀s t,EqS s t→K s→K t) (kp:Bool) (i d:Nat)
    (b:aAny P L rg K fuel (listed.setIfInBounds i true) ⟨(d,v)::env,O,vw,n,m⟩) (hi:rg.toList.drop i=oi::rest:=by rfl) (hd:oi.dst=some d:=by rfl) (hf:Region.freeG L kp rg listed i=true:=by kernel_rfl) (hr:(Region.ready .any rg listed).contains i=true:=by kernel_rfl)
    (hp : PureH P L rg kp oi d v ⟨env,O,vw,n,m⟩:=by
      intro t hn gx ho K' k'
      dsimp only at hn
      first
      | refine .inr ⟨?_,_,_,false,rfl,?_,nofun,fun _=>⟨.any,k'⟩⟩
        · simp only [hn,dst_some,Nat.reduceLT]
        · first | rfl | (simp (disch:=decide) only [gx,zV,guardV,Nat.reduceEqDiff,reduceIte];done)
      | skip
        refine .inl ?_
        simp (disch:=first | decide | rfl) only [gx,zE,zL,zN,aStepM,optable,Nat.reduceEqDiff,reduceIte,Nat.reduceLT,implies_true,forall_const,reduceCtorEq,V.ofValue,V.ofScalar,V.un,V.gd,guardV,V.wrap,aExec,aop,aFieldAddr,Nat.reduceAdd,Nat.reduceLeDiff,Nat.reduceMul,contentL,Value.oneCell',List.all_cons,List.all_nil,Bool.and_self,‹Tys _›.h,‹Fc _›.h]
        repeat (refine andA ?_)
        exact k'):aAny P L rg K (fuel+1) listed ⟨env,O,vw,n,m⟩:=aAny_take hK kp i d hi hd hf hr ⟨v,hp,b⟩
theorem zdIndexAddr {P:Program} {L:Lend} {rg:Array Oper} {K:St→Prop} {fuel:Nat} {listed:Array Bool} {env:List (Nat×V)} {O:List Blk} {vw:Bool} {n m:Nat} {oi:Oper} {rest:List Oper} {v:V} (hK:∀s t,EqS s t→K s→K t) (kp:Bool) (i d:Nat)
    (b:aAny P L rg K fuel (listed.setIfInBounds i true) ⟨(d,v)::env,O,vw,n,m⟩) (hi:rg.toList.drop i=oi::rest:=by rfl) (hd:oi.dst=some d:=by rfl) (hf:Region.freeG L kp rg listed i=true:=by kernel_rfl) (hr:(Region.ready .any rg listed).contains i=true:=by kernel_rfl)
    (hp:PureH P L rg kp oi d v ⟨env,O,vw,n,m⟩:=by
      intro t hn gx ho K' k'
      dsimp only at hn
      first | have r0:=row_all (ho rfl) 0 rfl | have r0:=True.intro
      first | have r1:=row_all (ho rfl) 1 rfl | have r1:=True.intro
      first | have r2:=row_all (ho rfl) 2 rfl | have r2:=True.intro
      first | have r3:=row_all (ho rfl) 3 rfl | have r3:=True.intro
      first | have r4:=row_all (ho rfl) 4 rfl | have r4:=True.intro
      first | have r5:=row_all (ho rfl) 5 rfl | have r5:=True.intro
      refine .inl ?_
      simp (disch:=first | decide | rfl) only [gx,r0,r1,r2,r3,r4,r5,zE,zL,zN,aStepM,optable,Nat.reduceEqDiff,reduceIte,Nat.reduceLT,implies_true,forall_const,reduceCtorEq,V.ofValue,V.ofScalar,V.un,V.gd,aExec,aop,List.mem_cons,List.not_mem_nil,or_false,forall_eq_or_imp,forall_eq,aIndexAddr,row_mk,Blk.row,Go.Vm.V.cells,List.forall_mem_map,List.length_map,Int.toNat_natCast,Int.reduceToNat,TypeDesc.slice.injEq,Nat.reduceAdd,Nat.reduceLeDiff,Nat.reduceMul,contentL,Value.oneCell',List.all_cons,List.all_nil,Bool.and_self,‹Tys _›.h,‹Fc _›.h]
      repeat (refine andA ?_)
      exact k'):aAny P L rg K (fuel+1) listed ⟨env,O,vw,n,m⟩:=aAny_take hK kp i d hi hd hf hr ⟨v,hp,b⟩
theorem zdgIndexAddr {P:Program} {L:Lend} {rg:Array Oper} {K:St→Prop} {fuel:Nat} {listed:Array Bool} {env:List (Nat×V)} {O:List Blk} {vw:Bool} {n m:Nat} {oi:Oper} {rest:List Oper} {v:V} (hK:∀s t,EqS s t→K s→K t) (kp:Bool) (i d:Nat)
    (b:aAny P L rg K fuel (listed.setIfInBounds i true) ⟨(d,v)::env,O,vw,n,m⟩) (hi:rg.toList.drop i=oi::rest:=by rfl) (hd:oi.dst=some d:=by rfl) (hf:Region.freeG L kp rg listed i=true:=by kernel_rfl) (hr:(Region.ready .any rg listed).contains i=true:=by kernel_rfl)
    (hp : PureH P L rg kp oi d v ⟨env,O,vw,n,m⟩:=by
      intro t hn gx ho K' k'
      dsimp only at hn
      first | have r0:=row_all (ho rfl) 0 rfl | have r0:=True.intro
      first | have r1:=row_all (ho rfl) 1 rfl | have r1:=True.intro
      first | have r2:=row_all (ho rfl) 2 rfl | have r2:=True.intro
      first | have r3:=row_all (ho rfl) 3 rfl | have r3:=True.intro
      first | have r4:=row_all (ho rfl) 4 rfl | have r4:=True.intro
      first | have r5:=row_all (ho rfl) 5 rfl | have r5:=True.intro
      first
      | refine .inr ⟨?_,_,_,false,rfl,?_,nofun,fun _=>⟨.any,k'⟩⟩
        · simp only [hn,dst_some,Nat.reduceLT]
        · first | rfl | (simp (disch:=decide) only [gx,zV,guardV,Nat.reduceEqDiff,reduceIte];done)
      | skip
        refine .inl ?_
        simp (disch:=first | decide | rfl) only [gx,r0,r1,r2,r3,r4,r5,zE,zL,zN,aStepM,optable,Nat.reduceEqDiff,reduceIte,Nat.reduceLT,implies_true,forall_const,reduceCtorEq,V.ofValue,V.ofScalar,V.un,V.gd,guardV,V.wrap,aExec,aop,List.mem_cons,List.not_mem_nil,or_false,forall_eq_or_imp,forall_eq,aIndexAddr,row_mk,Blk.row,Go.Vm.V.cells,List.forall_mem_map,List.length_map,Int.toNat_natCast,Int.reduceToNat,TypeDesc.slice.injEq,Nat.reduceAdd,Nat.reduceLeDiff,Nat.reduceMul,contentL,Value.oneCell',List.all_cons,List.all_nil,Bool.and_self,‹Tys _›.h,‹Fc _›.h]
        repeat (refine andA ?_)
        exact k'):aAny P L rg K (fuel+1) listed ⟨env,O,vw,n,m⟩:=aAny_take hK kp i d hi hd hf hr ⟨v,hp,b⟩
theorem zdExtract {P:Program} {L:Lend} {rg:Array Oper} {K:St→Prop} {fuel:Nat} {listed:Array Bool} {env:List (Nat×V)} {O:List Blk} {vw:Bool} {n m:Nat} {oi:Oper} {rest:List Oper} {v:V} (hK:∀s t,EqS s t→K s→K t) (kp:Bool) (i d:Nat)
    (b:aAny P L rg K fuel (listed.setIfInBounds i true) ⟨(d,v)::env,O,vw,n,m⟩) (hi:rg.toList.drop i=oi::rest:=by rfl) (hd:oi.dst=some d:=by rfl) (hf:Region.freeG L kp rg listed i=true:=by kernel_rfl) (hr:(Region.ready .any rg listed).contains i=true:=by kernel_rfl)
    (hp:PureH P L rg kp oi d v ⟨env,O,vw,n,m⟩:=by
      intro t hn gx ho K' k'
      dsimp only at hn
      refine .inl ?_
      simp (disch:=first | decide | rfl) only [gx,zE,zL,zN,aStepM,optable,Nat.reduceEqDiff,reduceIte,Nat.reduceLT,implies_true,forall_const,reduceCtorEq,V.ofValue,V.ofScalar,V.un,V.gd,aExec,aop,aExtract,Nat.reduceAdd,Nat.reduceLeDiff,Nat.reduceMul,contentL,Value.oneCell',List.all_cons,List.all_nil,Bool.and_self,‹Tys _›.h,‹Fc _›.h]
      repeat (refine andA ?_)
      exact k'):aAny P L rg K (fuel+1) listed ⟨env,O,vw,n,m⟩:=aAny_take hK kp i d hi hd hf hr ⟨v,hp,b⟩
theorem zdSlice {P:Program} {L:Lend} {rg:Array Oper} {K:St→Prop} {fuel:Nat} {listed:Array Bool} {env:List (Nat×V)} {O:List Blk} {vw:Bool} {n m:Nat} {oi:Oper} {rest:List Oper} {v:V} (hK:∀s t,EqS s t→K s→K t) (kp:Bool) (i d:Nat)
    (b:aAny P L rg K fuel (listed.setIfInBounds i true) ⟨(d,v)::env,O,vw,n,m⟩) (hi:rg.toList.drop i=oi::rest:=by rfl) (hd:oi.dst=some d:=by rfl) (hf:Region.freeG L kp rg listed i=true:=by kernel_rfl) (hr:(Region.ready .any rg listed).contains i=true:=by kernel_rfl)
    (hp:PureH P L rg kp oi d v ⟨env,O,vw,n,m⟩:=by
      intro t hn gx ho K' k'
      dsimp only at hn
      first | have r0:=row_all (ho rfl) 0 rfl | have r0:=True.intro
      first | have r1:=row_all (ho rfl) 1 rfl | have r1:=True.intro
      first | have r2:=row_all (ho rfl) 2 rfl | have r2:=True.intro
      first | have r3:=row_all (ho rfl) 3 rfl | have r3:=True.intro
      first | have r4:=row_all (ho rfl) 4 rfl | have r4:=True.intro
      first | have r5:=row_all (ho rfl) 5 rfl | have r5:=True.intro
      refine .inl ?_
      simp (disch:=first | decide | rfl) only [gx,r0,r1,r2,r3,r4,r5,zE,zL,zN,aStepM,optable,Nat.reduceEqDiff,reduceIte,Nat.reduceLT,implies_true,forall_const,reduceCtorEq,V.ofValue,V.ofScalar,V.un,V.gd,aExec,aop,List.set_cons_zero,List.set_cons_succ,aSlice,forall_eq',bound,ElemsOK,Option.map_none,Option.isNone_none,row_mk,Blk.row,TypeDesc.slice.injEq,List.forall_mem_map,List.length_map,Go.Vm.V.cells,Int.toNat_natCast,Int.reduceToNat,←List.map_take,←List.map_drop,List.take_length,Nat.reduceAdd,Nat.reduceLeDiff,Nat.reduceMul,contentL,Value.oneCell',List.all_cons,List.all_nil,Bool.and_self,‹Tys _›.h,‹Fc _›.h]
      repeat (refine andA ?_)
      exact k'):aAny P L rg K (fuel+1) listed ⟨env,O,vw,n,m⟩:=aAny_take hK kp i d hi hd hf hr ⟨v,hp,b⟩
theorem zdLen {P:Program} {L:Lend} {rg:Array Oper} {K:St→Prop} {fuel:Nat} {listed:Array Bool} {env:List (Nat×V)} {O:List Blk} {vw:Bool} {n m:Nat} {oi:Oper} {rest:List Oper} {v:V} (hK:∀s t,EqS s t→K s→K t) (kp:Bool) (i d:Nat)
    (b:aAny P L rg K fuel (listed.setIfInBounds i true) ⟨(d,v)::env,O,vw,n,m⟩) (hi:rg.toList.drop i=oi::rest:=by rfl) (hd:oi.dst=some d:=by rfl) (hf:Region.freeG L kp rg listed i=true:=by kernel_rfl) (hr:(Region.ready .any rg listed).contains i=true:=by kernel_rfl)
    (hp:PureH P L rg kp oi d v ⟨env,O,vw,n,m⟩:=by
      intro t hn gx ho K' k'
      dsimp only at hn
      first | have r0:=row_all (ho rfl) 0 rfl | have r0:=True.intro
      first | have r1:=row_all (ho rfl) 1 rfl | have r1:=True.intro
      first | have r2:=row_all (ho rfl) 2 rfl | have r2:=True.intro
      first | have r3:=row_all (ho rfl) 3 rfl | have r3:=True.intro
      first | have r4:=row_all (ho rfl) 4 rfl | have r4:=True.intro
      first | have r5:=row_all (ho rfl) 5 rfl | have r5:=True.intro
      refine .inl ?_
      simp (disch:=first | decide | rfl) only [gx,r0,r1,r2,r3,r4,r5,zE,zL,zN,aStepM,optable,Nat.reduceEqDiff,reduceIte,Nat.reduceLT,implies_true,forall_const,reduceCtorEq,V.ofValue,V.ofScalar,V.un,V.gd,aExec,aop,List.length_map,aLen,lenOK,row_mk,Blk.row,List.size_toArray,List.getD_eq_getElem?_getD,Array.getD_eq_getD_getElem?,Option.getD_some,Nat.reduceAdd,Nat.reduceLeDiff,Nat.reduceMul,contentL,Value.oneCell',List.all_cons,List.all_nil,Bool.and_self,‹Tys _›.h,‹Fc _›.h]
      repeat (refine andA ?_)
      exact k'):aAny P L rg K (fuel+1) listed ⟨env,O,vw,n,m⟩:=aAny_take hK kp i d hi hd hf hr ⟨v,hp,b⟩
theorem zdConvert {P:Program} {L:Lend} {rg:Array Oper} {K:St→Prop} {fuel:Nat} {listed:Array Bool} {env:List (Nat×V)} {O:List Blk} {vw:Bool} {n m:Nat} {oi:Oper} {rest:List Oper} {v:V} (hK:∀s t,EqS s t→K s→K t) (kp:Bool) (i d:Nat)
    (b:aAny P L rg K fuel (listed.setIfInBounds i true) ⟨(d,v)::env,O,vw,n,m⟩) (hi:rg.toList.drop i=oi::rest:=by rfl) (hd:oi.dst=some d:=by rfl) (hf:Region.freeG L kp rg listed i=true:=by kernel_rfl) (hr:(Region.ready .any rg listed).contains i=true:=by kernel_rfl)
    (hp:PureH P L rg kp oi d v ⟨env,O,vw,n,m⟩:=by
      intro t hn gx ho K' k'
      dsimp only at hn
      refine .inl ?_
      simp (disch:=first | decide | rfl) only [gx,zE,zL,zN,aStepM,optable,Nat.reduceEqDiff,reduceIte,Nat.reduceLT,implies_true,forall_const,reduceCtorEq,V.ofValue,V.ofScalar,V.un,V.gd,aExec,aop,unByte,row_mk,Blk.row,TypeDesc.slice.injEq,Nat.reduceAdd,Nat.reduceLeDiff,Nat.reduceMul,contentL,Value.oneCell',List.all_cons,List.all_nil,Bool.and_self,‹Tys _›.h,‹Fc _›.h]
      repeat (refine andA ?_)
      exact k'):aAny P L rg K (fuel+1) listed ⟨env,O,vw,n,m⟩:=aAny_take hK kp i d hi hd hf hr ⟨v,hp,b⟩
theorem zoAssign {P:Program} {L:Lend} {rg:Array Oper} {K:St→Prop} {fuel:Nat} {listed:Array Bool} {s:St} {oi:Oper} {rest:List Oper} {B:Prop} (i:Nat) (b:Ho B) (hi:rg.toList.drop i=oi::rest:=by rfl) (hr:Region.ready .any rg listed=[i]:=by kernel_rfl)
    (e:Ho B→(∀K':St→Prop,(∀s,aAny P L rg K fuel (listed.setIfInBounds i true) s→K' s)→aStepM P L rg oi s K'):=by
      intro b K k
      simp only [zE,zS,aStepM,optable,set_some,Nat.reduceEqDiff,reduceIte,Nat.reduceLT,implies_true,forall_const,reduceCtorEq,V.ofValue,V.ofScalar,V.un,V.gd,aExec,aop,Nat.reduceAdd,contentL,Value.oneCell',List.all_cons,List.all_nil,Bool.and_self,‹Tys _›.h,‹Fc _›.h]
      repeat (refine andA ?_)
      refine k _ ?_
      clear k K
      exact b.h):aAny P L rg K (fuel+1) listed s:=aAny_only i hi hr (e b)
theorem zoStore {P:Program} {L:Lend} {rg:Array Oper} {K:St→Prop} {fuel:Nat} {listed:Array Bool} {s:St} {oi:Oper} {rest:List Oper} {B:Prop} (i:Nat) (b:Ho B) (hi:rg.toList.drop i=oi::rest:=by rfl) (hr:Region.ready .any rg listed=[i]:=by kernel_rfl)
    (e:Ho B→(∀K':St→Prop,(∀s,aAny P L rg K fuel (listed.setIfInBounds i true) s→K' s)→aStepM P L rg oi s K'):=by
      intro b K k
      simp only [zE,zS,zJ,zL,zO,zN,aStepM,optable,set_some,Nat.reduceEqDiff,reduceIte,Nat.reduceLT,implies_true,forall_const,reduceCtorEq,V.ofValue,V.ofScalar,V.un,V.gd,aExec,aop,aStore,setCells,V.isVal,V.cells,kindOf,kindAll,V.noSl,V.noRef,gt_iff_lt,Nat.reduceAdd,Nat.reduceLeDiff,Nat.reduceMul,takeV,takeCell,takeCells,row_mk,Blk.row,killAll,Nat.reduceBEq,join_t,contentL,Value.oneCell',‹Tys _›.h,‹Fc _›.h]
      repeat (refine andA ?_)
      refine k _ ?_
      clear k K
      exact b.h):aAny P L rg K (fuel+1) listed s:=aAny_only i hi hr (e b)
theorem zoBuildSlice {P:Program} {L:Lend} {rg:Array Oper} {K:St→Prop} {fuel:Nat} {listed:Array Bool} {s:St} {oi:Oper} {rest:List Oper} {B:Prop} (i:Nat) (b:Ho B) (hi:rg.toList.drop i=oi::rest:=by rfl) (hr:Region.ready .any rg listed=[i]:=by kernel_rfl)
    (e:Ho B→(∀K':St→Prop,(∀s,aAny P L rg K fuel (listed.setIfInBounds i true) s→K' s)→aStepM P L rg oi s K'):=by
      intro b K k
      simp only [zE,zO,zN,aStepM,optable,set_some,Nat.reduceEqDiff,reduceIte,Nat.reduceLT,implies_true,forall_const,reduceCtorEq,V.ofValue,V.ofScalar,V.un,V.gd,aExec,aop,litElems,rng0,rng1,rng2,rng3,rng4,rng5,rng6,rng7,rng8,rng9,rng10,rng11,rng12,List.map_cons,List.map_nil,List.all_cons,List.all_nil,V.isVal,V.cells,content,contentL,kindAll,V.noRef,V.noSl,List.mem_cons,List.not_mem_nil,or_false,forall_eq_or_imp,forall_eq,if_true,Option.isSome_some,List.length_cons,List.length_nil,Nat.reduceAdd,Nat.reduceLeDiff,Nat.reduceMul,Value.oneCell',‹Tys _›.h,‹Fc _›.h]
      repeat (refine andA ?_)
      refine k _ ?_
      clear k K
      exact b.h):aAny P L rg K (fuel+1) listed s:=aAny_only i hi hr (e b)
theorem zoAppend {P:Program} {L:Lend} {rg:Array Oper} {K:St→Prop} {fuel:Nat} {listed:Array Bool} {s:St} {oi:Oper} {rest:List Oper} {B:Prop} (i:Nat) (b:Ho B) (hi:rg.toList.drop i=oi::rest:=by rfl) (hr:Region.ready .any rg listed=[i]:=by kernel_rfl)
    (e:Ho B→(∀K':St→Prop,(∀s,aAny P L rg K fuel (listed.setIfInBounds i true) s→K' s)→aStepM P L rg oi s K'):=by
      intro b K k
      simp only [zE,zL,zO,zN,aStepM,optable,set_some,Nat.reduceEqDiff,reduceIte,Nat.reduceLT,implies_true,forall_const,reduceCtorEq,V.ofValue,V.ofScalar,V.un,V.gd,aExec,aop,fillK_thin,beq_self_eq_true,List.nodup_cons,List.mem_singleton,forall_eq',List.size_toArray,List.getD_eq_getElem?_getD,Array.getD_eq_getD_getElem?,Option.getD_some,aAppend,destOf,srcOf,takeElems,takeV,takeCell,takeCells,row_mk,Blk.row,killAll,V.isSub,V.noSl,Value.cells,Option.toList,List.forall_mem_map,List.length_map,List.all_cons,List.all_nil,List.isEmpty_nil,List.isEmpty_cons,List.not_mem_nil,List.nodup_nil,join_ff,join_ft,join_fv,join_d,join_s,fillK_join0,fillK_join,List.mem_cons,or_false,forall_eq_or_imp,forall_eq,List.set_cons_zero,List.set_cons_succ,List.length_append,Go.Vm.V.cells,Nat.reduceAdd,Nat.reduceLeDiff,Nat.reduceMul,contentL,Value.oneCell',‹Tys _›.h,‹Fc _›.h]
      repeat (refine andA ?_)
      refine k _ ?_
      clear k K
      exact b.h):aAny P L rg K (fuel+1) listed s:=aAny_only i hi hr (e b)
theorem zoc {P:Program} {L:Lend} {rg:Array Oper} {K:St→Prop} {fuel:Nat} {listed:Array Bool} {s:St} {oi:Oper} {rest:List Oper} {B:Prop} {C:Prop} (i:Nat) (con:C) (b:Ho B) (hi:rg.toList.drop i=oi::rest:=by rfl) (hr:Region.ready .any rg listed=[i]:=by kernel_rfl)
    (e:C→Ho B→(∀K':St→Prop,(∀s,aAny P L rg K fuel (listed.setIfInBounds i true) s→K' s)→aStepM P L rg oi s K'):=by
      intro con b K k
      simp only [zE,zM,aStepM,optable,set_some,Nat.reduceEqDiff,reduceIte,Nat.reduceLT,implies_true,forall_const,reduceCtorEq,V.ofValue,V.ofScalar,V.un,V.gd,aExec,lentIds,lendOf,‹Tys _›.h,‹Fc _›.h]
      repeat (refine andC ?_)
      refine aCall_new con (by first | rfl | (simp only [toArgs,toArg,toCell,toCells,toRows,Option.map_some,idx,row_mk,List.getElem?_cons_zero,List.getElem?_cons_succ,Option.bind_some,Blk.row,fillK_mix,thK_mix,flat_mix,deep_mix,thin_mix,shal_mix,cond_true,List.map_take];done) | (simp [toArgs,toArg,toCell,toCells,toRows,idx,row_mk,Blk.row,fillK_mix,thK_mix,flat_mix,deep_mix,thin_mix,shal_mix,Nat.beq_refl];done)) (by first | exact .inl ⟨rfl,by simp [Blk.kindIs,fillK_fd,thK_fd]⟩ | exact .inr (by simp [V.cold])) ?_
      refine k _ ?_
      clear k K
      simp only [zY,zW,set_some,Nat.reduceEqDiff,reduceIte,V.ren,V.renL,rho,Nat.reduceAdd]
      exact b.h):aAny P L rg K (fuel+1) listed s:=aAny_only i hi hr (e con b)
theorem zogc {P:Program} {L:Lend} {rg:Array Oper} {K:St→Prop} {fuel:Nat} {listed:Array Bool} {s:St} {oi:Oper} {rest:List Oper} {B:Prop} {C:Prop} (i:Nat) (con:C) (b:Ho B) (hi:rg.toList.drop i=oi::rest:=by rfl) (hr:Region.ready .any rg listed=[i]:=by kernel_rfl)
    (e:C→Ho B→(Region.ready .any rg listed=[i])→(rg.toList.drop i=oi::rest)→aAny P L rg K (fuel+1) listed s:=by
      intro con b hr hi
      first
      | refine aAny_pass _ _ _ _ hi rfl (Nat.le_of_ble_eq_true rfl) hr rfl ?_ ?_
        · first | rfl | (simp only [zV,guardV,Nat.reduceEqDiff,reduceIte];done)
        simp only [zW,set_some,Nat.reduceEqDiff,reduceIte]
        exact b.h
      | skip
        refine aAny_only _ hi hr ?_
        intro K k
        simp only [zE,zG,aStepM,optable,set_some,Nat.reduceEqDiff,reduceIte,Nat.reduceLT,implies_true,forall_const,reduceCtorEq,V.ofValue,V.ofScalar,V.un,V.gd,guardV,‹Tys _›.h,‹Fc _›.h]
        simp only [zM,zW,aExec,lentIds,lendOf,set_some,Nat.reduceEqDiff,reduceIte,V.ofValue,V.ofScalar,V.un,V.gd,and_true,true_and,implies_true,and_self,decide_eq_true_eq]
        first | refine Exists.imp (fun r h=>h) (aCall_guardT con (by first | rfl | (simp only [toArgs,toArg,toCell,toCells,toRows,Option.map_some,idx,row_mk,List.getElem?_cons_zero,List.getElem?_cons_succ,Option.bind_some,Blk.row,fillK_mix,thK_mix,flat_mix,deep_mix,thin_mix,shal_mix,cond_true,List.map_take];done) | (simp [toArgs,toArg,toCell,toCells,toRows,idx,row_mk,Blk.row,fillK_mix,thK_mix,flat_mix,deep_mix,thin_mix,shal_mix,Nat.beq_refl];done)) rfl rfl ?_) | refine Exists.imp (fun r h=>h) (aCall_guard0 (fun hg=>con) (by first | rfl | (simp only [toArgs,toArg,toCell,toCells,toRows,Option.map_some,idx,row_mk,List.getElem?_cons_zero,List.getElem?_cons_succ,Option.bind_some,Blk.row,fillK_mix,thK_mix,flat_mix,deep_mix,thin_mix,shal_mix,cond_true,List.map_take];done) | (simp [toArgs,toArg,toCell,toCells,toRows,idx,row_mk,Blk.row,fillK_mix,thK_mix,flat_mix,deep_mix,thin_mix,shal_mix,Nat.beq_refl];done)) rfl rfl ?_) | refine Exists.imp (fun r h=>h) (aCall_guard (by first | (intros;trivial) | (intros;simp_all;done)) (fun hg=>con) (by first | rfl | (simp only [toArgs,toArg,toCell,toCells,toRows,Option.map_some,idx,row_mk,List.getElem?_cons_zero,List.getElem?_cons_succ,Option.bind_some,Blk.row,fillK_mix,thK_mix,flat_mix,deep_mix,thin_mix,shal_mix,cond_true,List.map_take];done) | (simp [toArgs,toArg,toCell,toCells,toRows,idx,row_mk,Blk.row,fillK_mix,thK_mix,flat_mix,deep_mix,thin_mix,shal_mix,Nat.beq_refl];done)) rfl rfl ?_)
        refine k _ ?_
        clear k K
        exact b.h):aAny P L rg K (fuel+1) listed s:=e con b hr hi
end Go.Vm
namespace Go.Vm
open Go
def opNo (o:Oper):Nat:=(match o.op with
  | .move _=>0
  | .assign _=>2
  | .pick _ _ _=>4
  | .alloc _=>6
  | .box _ _=>8
  | .build _ _=>10
  | .buildSlice _ _ _=>12
  | .load _ _=>14
  | .store _ _ _=>16
  | .nilCheck _=>18
  | .unOp _ _ _=>26
  | .convert _ _ _=>28
  | .makeSlice _ _ _=>30
  | .slice _ _ _ _ _=>32
  | .fieldAddr _ _ _=>34
  | .field _ _ _=>36
  | .indexAddr _ _ _=>38
  | .index _ _ _=>40
  | .extract _ _=>42
  | .makeFunc _ _ _=>56
  | .binOp b _ _ y _=>(match y with
    | .const (.slice _ _ _)=>90
    | _=>match b with
      | .add | .sub | .mul | .quo=>22
      | _=>20)
  | .call c=>(match c.callee with
    | .builtin .len=>44
    | .builtin .append=>46
    | .builtin .max=>48
    | .builtin .min=>50
    | .builtin .copy=>52
    | .builtin .clear=>54
    | _=>60)
  | _=>90)+(match o.guard with
  | none=>0
  | _=>1)
theorem opIs {P:Program} {L:Lend} {rg:Array Oper} {K:St→Prop} {o:Oper} {rest:List Oper} {s:St} (n:Nat) (hn:opNo o=n) (h:aOps P L rg K (o::rest) s):aOps P L rg K (o::rest) s:=h
structure Ks (ks:List Nat):Prop where
  t:True
theorem v_seqK {P:Program} {L:Lend} {m:Nat} {Q:AEx→St→Prop} {s:St} {id:Nat} {ops:Array Oper} {y:Code} {ks:List Nat} (_:Ks ks)
    (h:∀K:St→Prop,(∀s,awp P L m y Q (s.keep ks)→K s)→aOps P L ops K ops.toList s):awp P L m (.seq (.region id ops false) y) Q s:=v_seqR ks h
theorem rA {R:St→Prop} {Q:AEx→St→Prop} {x:AEx} {s:St} (h:∀s,R s→Q x s) (g:R s):Q x s:=h s g
theorem eA {R:Nat→St→Prop} {Q:AEx→St→Prop} {i:Nat} {s:St} (h:∀i s,R i s→Q (.exit i) s) (g:R i s):Q (.exit i) s:=h i s g
theorem eB {R:Nat→St→Prop} {Q:AEx→St→Prop} {i j:Nat} {s:St} (h:∀i s,i≠j→R i s→Q (.exit i) s) (hi:i≠j) (g:R i s):Q (.exit i) s:=h i s hi g
theorem nA {m:Nat} {ks:List Nat} {A:St→Prop} {Q:AEx→St→Prop} {s:St} (_:Ks ks) (h:∀s s1,Weak m s s1→A s1→Q .normal s) (g:A (s.keep ks)):Q .normal s:=h _ _ (weak_keep ks s) g
theorem zz {A B:Prop} (b:Ho B) (e:Ho B→A:=by
  intro b
  repeat (first
    | (refine opIs 0 rfl ?_;refine zMove ⟨?_⟩)
    | (refine opIs 14 rfl ?_;refine zLoad ⟨?_⟩)
    | (refine opIs 20 rfl ?_;refine zBinOp ⟨?_⟩)
    | (refine opIs 2 rfl ?_;refine zAssign ⟨?_⟩)
    | (refine opIs 34 rfl ?_;refine zFieldAddr ⟨?_⟩)
    | (refine opIs 38 rfl ?_;refine zIndexAddr ⟨?_⟩)
    | (refine opIs 16 rfl ?_;refine zStore ⟨?_⟩)
    | (refine opIs 42 rfl ?_;refine zExtract ⟨?_⟩)
    | (refine opIs 44 rfl ?_;refine zLen ⟨?_⟩)
    | (refine opIs 22 rfl ?_;refine zBinOpW ⟨?_⟩)
    | (refine opIs 28 rfl ?_;refine zConvert ⟨?_⟩)
    | (refine opIs 26 rfl ?_;refine zUnOp ⟨?_⟩)
    | (refine opIs 32 rfl ?_;refine zSlice ⟨?_⟩)
    | (refine opIs 6 rfl ?_;refine zAlloc ⟨?_⟩)
    | (refine opIs 8 rfl ?_;refine zBox ⟨?_⟩)
    | (refine opIs 10 rfl ?_;refine zBuild ⟨?_⟩)
    | (refine opIs 12 rfl ?_;refine zBuildSlice ⟨?_⟩)
    | (refine opIs 46 rfl ?_;refine zAppend ⟨?_⟩)
    | (refine opIs 4 rfl ?_;refine zPick ⟨?_⟩)
    | (refine opIs 18 rfl ?_;refine zNilCheck ⟨?_⟩)
    | (refine opIs 30 rfl ?_;refine zMakeSlice ⟨?_⟩)
    | (refine opIs 36 rfl ?_;refine zField ⟨?_⟩)
    | (refine opIs 40 rfl ?_;refine zIndex ⟨?_⟩)
    | (refine opIs 48 rfl ?_;refine zMax ⟨?_⟩)
    | (refine opIs 50 rfl ?_;refine zMin ⟨?_⟩)
    | (refine opIs 52 rfl ?_;refine zCopy ⟨?_⟩)
    | (refine opIs 54 rfl ?_;refine zClear ⟨?_⟩)
    | (refine opIs 56 rfl ?_;refine zMakeFunc ⟨?_⟩)
    | (refine opIs 1 rfl ?_;refine zgMove ⟨?_⟩)
    | (refine opIs 15 rfl ?_;refine zgLoad ⟨?_⟩)
    | (refine opIs 21 rfl ?_;refine zgBinOp ⟨?_⟩)
    | (refine opIs 3 rfl ?_;refine zgAssign ⟨?_⟩)
    | (refine opIs 35 rfl ?_;refine zgFieldAddr ⟨?_⟩)
    | (refine opIs 39 rfl ?_;refine zgIndexAddr ⟨?_⟩)
    | (refine opIs 17 rfl ?_;refine zgStore ⟨?_⟩)
    | (refine opIs 43 rfl ?_;refine zgExtract ⟨?_⟩)
    | (refine opIs 45 rfl ?_;refine zgLen ⟨?_⟩)
    | (refine opIs 23 rfl ?_;refine zgBinOpW ⟨?_⟩)
    | (refine opIs 29 rfl ?_;refine zgConvert ⟨?_⟩)
    | (refine opIs 27 rfl ?_;refine zgUnOp ⟨?_⟩)
    | (refine opIs 33 rfl ?_;refine zgSlice ⟨?_⟩)
    | (refine opIs 7 rfl ?_;refine zgAlloc ⟨?_⟩)
    | (refine opIs 9 rfl ?_;refine zgBox ⟨?_⟩)
    | (refine opIs 11 rfl ?_;refine zgBuild ⟨?_⟩)
    | (refine opIs 13 rfl ?_;refine zgBuildSlice ⟨?_⟩)
    | (refine opIs 47 rfl ?_;refine zgAppend ⟨?_⟩)
    | (refine opIs 5 rfl ?_;refine zgPick ⟨?_⟩)
    | (refine opIs 19 rfl ?_;refine zgNilCheck ⟨?_⟩)
    | (refine opIs 31 rfl ?_;refine zgMakeSlice ⟨?_⟩)
    | (refine opIs 37 rfl ?_;refine zgField ⟨?_⟩)
    | (refine opIs 41 rfl ?_;refine zgIndex ⟨?_⟩)
    | (refine opIs 49 rfl ?_;refine zgMax ⟨?_⟩)
    | (refine opIs 51 rfl ?_;refine zgMin ⟨?_⟩)
    | (refine opIs 53 rfl ?_;refine zgCopy ⟨?_⟩)
    | (refine opIs 55 rfl ?_;refine zgClear ⟨?_⟩)
    | (refine opIs 57 rfl ?_;refine zgMakeFunc ⟨?_⟩))
  exact b.h):A:=e b
theorem zr {A B:Prop} (b:Ho B) (e:Ho B→A:=by
  intro b
  refine v_ret ?_
  repeat (refine rA (by assumption) ?_)
  refine zf ⟨?_⟩
  exact b.h):A:=e b
theorem zn (ks:List Nat) {A B:Prop} (b:Ho B) (e:Ks ks→Ho B→A:=by
  intro q b
  first | refine v_skip ?_ | refine v_exit ?_ | skip
  repeat (first | refine rA (by assumption) ?_ | refine eA (by assumption) ?_ | refine eB (by assumption) (by decide) ?_)
  refine nA q (by assumption) ?_
  simp only [keep_mk,keepE_nil,keepE_cons,look_cons,look_nil,Nat.reduceEqDiff,reduceIte]
  exact b.h):A:=e ⟨trivial⟩ b
theorem zx {A B:Prop} (b:Ho B) (e:Ho B→A:=by
  intro b
  first | refine v_skip ?_ | refine v_exit ?_
  repeat (first | refine rA (by assumption) ?_ | refine eA (by assumption) ?_ | refine eB (by assumption) (by decide) ?_)
  exact b.h):A:=e b
theorem yR (ks:List Nat) {A B:Prop} (b:Ho B) (e:Ks ks→Ho B→A:=by
  intro q b
  refine v_seqK q ?_
  intro K k
  refine zz ⟨?_⟩
  refine k _ ?_
  clear k K
  simp only [keep_mk,keepE_nil,keepE_cons,look_cons,look_nil,Nat.reduceEqDiff,reduceIte]
  exact b.h):A:=e ⟨trivial⟩ b
theorem yQ (ks:List Nat) {A B:Prop} (b:Ho B) (e:Ks ks→Ho B→A:=by
  intro q b
  refine v_region ?_
  intro K k
  refine zz ⟨?_⟩
  refine k _ ?_
  clear k K
  repeat (first | refine rA (by assumption) ?_ | refine eA (by assumption) ?_ | refine eB (by assumption) (by decide) ?_)
  refine nA q (by assumption) ?_
  simp only [keep_mk,keepE_nil,keepE_cons,look_cons,look_nil,Nat.reduceEqDiff,reduceIte]
  exact b.h):A:=e ⟨trivial⟩ b
theorem yV {A B:Prop} (b:Ho B) (e:Ho B→A:=by
  intro b
  refine v_region ?_
  intro K k
  refine zz ⟨?_⟩
  refine k _ ?_
  clear k K
  repeat (first | refine rA (by assumption) ?_ | refine eA (by assumption) ?_ | refine eB (by assumption) (by decide) ?_)
  exact b.h):A:=e b
theorem yRc (ks:List Nat) {C0 A B:Prop} (con0:C0) (b:Ho B) (e:Ks ks→C0→Ho B→A:=by
  intro q con0 b
  refine v_seqK q ?_
  intro K k
  refine zz ⟨?_⟩
  refine zc con0 ⟨?_⟩
  refine zz ⟨?_⟩
  refine k _ ?_
  clear k K
  simp only [keep_mk,keepE_nil,keepE_cons,look_cons,look_nil,Nat.reduceEqDiff,reduceIte]
  exact b.h):A:=e ⟨trivial⟩ con0 b
theorem yRl (ks:List Nat) {C0 A B:Prop} (con0:C0) (b:Ho B) (e:Ks ks→C0→Ho B→A:=by
  intro q con0 b
  refine v_seqK q ?_
  intro K k
  refine zz ⟨?_⟩
  refine zcl con0 ⟨?_⟩
  refine zz ⟨?_⟩
  refine k _ ?_
  clear k K
  simp only [keep_mk,keepE_nil,keepE_cons,look_cons,look_nil,Nat.reduceEqDiff,reduceIte]
  exact b.h):A:=e ⟨trivial⟩ con0 b
theorem yRcc (ks:List Nat) {C0 C1 A B:Prop} (con0:C0) (con1:C1) (b:Ho B) (e:Ks ks→C0→C1→Ho B→A:=by
  intro q con0 con1 b
  refine v_seqK q ?_
  intro K k
  refine zz ⟨?_⟩
  refine zc con0 ⟨?_⟩
  refine zz ⟨?_⟩
  refine zc con1 ⟨?_⟩
  refine zz ⟨?_⟩
  refine k _ ?_
  clear k K
  simp only [keep_mk,keepE_nil,keepE_cons,look_cons,look_nil,Nat.reduceEqDiff,reduceIte]
  exact b.h):A:=e ⟨trivial⟩ con0 con1 b
theorem yRcg (ks:List Nat) {C0 C1 A B:Prop} (con0:C0) (con1:C1) (b:Ho B) (e:Ks ks→C0→C1→Ho B→A:=by
  intro q con0 con1 b
  refine v_seqK q ?_
  intro K k
  refine zz ⟨?_⟩
  refine zc con0 ⟨?_⟩
  refine zz ⟨?_⟩
  refine zgc con1 ⟨?_⟩
  refine zz ⟨?_⟩
  refine k _ ?_
  clear k K
  simp only [keep_mk,keepE_nil,keepE_cons,look_cons,look_nil,Nat.reduceEqDiff,reduceIte]
  exact b.h):A:=e ⟨trivial⟩ con0 con1 b
theorem yRgg (ks:List Nat) {C0 C1 A B:Prop} (con0:C0) (con1:C1) (b:Ho B) (e:Ks ks→C0→C1→Ho B→A:=by
  intro q con0 con1 b
  refine v_seqK q ?_
  intro K k
  refine zz ⟨?_⟩
  refine zgc con0 ⟨?_⟩
  refine zz ⟨?_⟩
  refine zgc con1 ⟨?_⟩
  refine zz ⟨?_⟩
  refine k _ ?_
  clear k K
  simp only [keep_mk,keepE_nil,keepE_cons,look_cons,look_nil,Nat.reduceEqDiff,reduceIte]
  exact b.h):A:=e ⟨trivial⟩ con0 con1 b
theorem yRcgg (ks:List Nat) {C0 C1 C2 A B:Prop} (con0:C0) (con1:C1) (con2:C2) (b:Ho B) (e:Ks ks→C0→C1→C2→Ho B→A:=by
  intro q con0 con1 con2 b
  refine v_seqK q ?_
  intro K k
  refine zz ⟨?_⟩
  refine zc con0 ⟨?_⟩
  refine zz ⟨?_⟩
  refine zgc con1 ⟨?_⟩
  refine zz ⟨?_⟩
  refine zgc con2 ⟨?_⟩
  refine zz ⟨?_⟩
  refine k _ ?_
  clear k K
  simp only [keep_mk,keepE_nil,keepE_cons,look_cons,look_nil,Nat.reduceEqDiff,reduceIte]
  exact b.h):A:=e ⟨trivial⟩ con0 con1 con2 b
theorem yQc (ks:List Nat) {C0 A B:Prop} (con0:C0) (b:Ho B) (e:Ks ks→C0→Ho B→A:=by
  intro q con0 b
  refine v_region ?_
  intro K k
  refine zz ⟨?_⟩
  refine zc con0 ⟨?_⟩
  refine zz ⟨?_⟩
  refine k _ ?_
  clear k K
  repeat (first | refine rA (by assumption) ?_ | refine eA (by assumption) ?_ | refine eB (by assumption) (by decide) ?_)
  refine nA q (by assumption) ?_
  simp only [keep_mk,keepE_nil,keepE_cons,look_cons,look_nil,Nat.reduceEqDiff,reduceIte]
  exact b.h):A:=e ⟨trivial⟩ con0 b
theorem yVc {C0 A B:Prop} (con0:C0) (b:Ho B) (e:C0→Ho B→A:=by
  intro con0 b
  refine v_region ?_
  intro K k
  refine zz ⟨?_⟩
  refine zc con0 ⟨?_⟩
  refine zz ⟨?_⟩
  refine k _ ?_
  clear k K
  repeat (first | refine rA (by assumption) ?_ | refine eA (by assumption) ?_ | refine eB (by assumption) (by decide) ?_)
  exact b.h):A:=e con0 b
end Go.Vm
