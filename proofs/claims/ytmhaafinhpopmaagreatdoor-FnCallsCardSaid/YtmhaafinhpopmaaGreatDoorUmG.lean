/- The value machine, part 7. -/
import Derived.Sort.Grow
import Derived.Lib.LaidTab
import Derived.Lib.Join
import Derived.Below
import Derived.Deep.Draws
import Derived.Test.YtmhaafinhpopmaaGreatDoorUmF
set_option linter.unusedSimpArgs false
set_option linter.unusedVariables false
set_option linter.defProp false
namespace Go.Vm
open Go
section
variable {α:Type} {f:α→V}
end
end Go.Vm
namespace Go.Vm
open Go
theorem con_str2 {P:Program} {f:FuncId} {a b:ByteArray} {r:V} {rv:Value} (hf:∃fn,P.funcs[f]? =some fn∧(fn.name == "runtime.NumGoroutine")=false∧fn.body.isNone=false) (hr:∀w μ,Rep w μ r rv [])
    (h:∀w,Calls P f #[.string a,.string b] w fun e w'=>e=.returned rv∧w'=w):Con P f [.str a,.str b] [] r []:=by
  refine ⟨hf,fun w vals μ ow vis hi=> ?_⟩;have h0:vals.getD 0 undef=.string a:=by
    obtain ⟨bl,r0,_⟩:=hi.arg 0 _ rfl;generalize vals.getD 0 undef=x at r0⊢;cases r0;rfl
  have h1:vals.getD 1 undef=.string b:=by
    obtain ⟨bl,r0,_⟩:=hi.arg 1 _ rfl;generalize vals.getD 1 undef=x at r0⊢;cases r0;rfl
  have hs:vals.size=2:=hi.sz;have hv:vals=#[.string a,.string b]:=by
    apply Array.ext
    · omega
    · intro i hi1 hi2
      have hi3:i < 2:=by omega
      have e:vals.getD i undef=vals[i]:=by simp_all
      grind
  subst hv;refine (h w).mono ?_;rintro e w' ⟨rfl,rfl⟩;exact ⟨rv,μ,ow,rfl,⟨⟨[],hr _ _,by simp⟩,by simp,by simp,MLe.refl _,qlf _,hi.dom,hi.owl,fun b hb=>.inl hb,⟨qlf _,fun _ _ _=>rfl,rfl,rfl,rfl,fun _ _=>rfl,fun _ hp=>nomatch hp⟩⟩⟩
end Go.Vm
namespace Go.Vm
open Go
end Go.Vm
namespace Go.Vm
open Go
theorem fillK_thin (i:Nat):(fillK i≠.thin)=True:=by grind[fillK]
def atSlot (t:Nat) (v:V) (l:List (Nat×V)):List (Nat×V):=l.map fun p=>if p.1=t then (p.1,v) else p
theorem atSlot_cons (t k:Nat) (v x:V) (l:List (Nat×V)):atSlot t v ((k,x)::l)=(if k=t then (k,v) else (k,x))::atSlot t v l:=rfl
theorem atSlot_nil (t:Nat) (v:V):atSlot t v []=[]:=rfl
theorem ret_refK {s:St} {k:Nat} {xs ys:List V} {kd:Kd} (hO:s.O[k]? =some (.arr xs kd)) (hk:(kd != .shal && kd.nm)=true) (e:xs=ys):RetOK 0 s (.ref k) (.ref 0) [.arr ys kd]:=by
  subst e;have hf:(refsOf (.ref k)).filter (fun id=>Nat.ble 0 id)=[k]:=by rfl
  unfold RetOK;simp only [hf];simp only [Bool.and_eq_true] at hk;refine ⟨⟨by simp [V.only,idx],by simp,qlo _⟩,by simp [V.ren,outNo,idx],by grind,?_,.inr ⟨by rfl,?_⟩⟩
  · intro bk hb
    rw [qlq] at hb;subst hb;exact hk.2
  · intro bk hb
    rw [qlq] at hb;subst hb;show (kd != .shal && kd.nm)=true
    grind
theorem Con.thin {P:Program} {f:FuncId} {args:List V} {r:V} {xs:List V} (h:Con P f args [] r [.arr xs .flat]):Con P f args [] r [.arr xs .thin]:=by
  refine ⟨h.1,fun w vals μ ow vis hi=>(h.2 w vals μ ow vis hi).mono ?_⟩;rintro e w' ⟨v,μ',ow',he,hout⟩;refine ⟨v,μ',ow',he,hout.rep,fun id bk hb=> ?_,?_,hout.same,hout.len,hout.dom,hout.owl,hout.own,hout.frm⟩
  · cases id with
    | zero=>
      simp only [List.getElem?_cons_zero,Option.some.injEq] at hb;subst hb;obtain ⟨l,q1,q2,q3⟩:=hout.blk 0 (.arr xs .flat) rfl;refine ⟨l,q1,q2,?_⟩;rcases q3 with q3 | ⟨q3,q4,bl,q5,q6,q7⟩
      · grind
      · exact .inr ⟨q3,q4,bl,q5,q6,fun q=>absurd rfl q⟩
    | succ n=>grind
  · intro bk hb
    rw [qlq] at hb;subst hb;rfl
theorem join_t:kdJoin .thin false false=some .thin:=rfl
theorem thin_mix:Kd.thin.nm=true:=rfl
theorem shal_mix:Kd.shal.nm=true:=rfl
theorem nil_eql:(BinOp.eql == BinOp.neq)=false:=rfl
theorem nil_neq:(BinOp.neq == BinOp.neq)=true:=rfl
structure Caps (caps:List V):Prop where
  cc:∀s ls,toCells s ls caps=some caps
  ca:∀s,toArgs s [] caps=some caps
  cn:∀p,V.onlyL p caps=true
  cr:∀ρ,V.renL ρ caps=caps
theorem Caps.nil:Caps []:=⟨fun _ _=>rfl,fun _=>rfl,fun _=>by rfl,fun _=>rfl⟩
theorem Caps.pv {caps:List V} (xs:List V) (h:Caps caps):Caps (.pv xs 0 0::caps):=
  ⟨fun s ls=>by simp [toCells,toCell,h.cc],fun s=>by simp [toArgs,toArg,toCell,h.ca],fun p=>by simp [V.onlyL,V.only,h.cn],fun ρ=>by simp [V.renL,V.ren,h.cr]⟩
theorem rho_one (id n:Nat):rho [id] n 0=id:=rfl
theorem beq_dec (m n:Nat):Nat.beq m n=decide (m=n):=by
  grind[Nat.beq,decide_eq_true,Nat.eq_of_beq_eq_true,decide_eq_false,Nat.beq_refl]
end Go.Vm
namespace Go.Vm
open Go
def SameShape (bk bk':Blk) (xs xs':List V) (k k':Kd):Prop:=
  (bk=.arr xs k∧bk'=.arr xs' k')∨(∃x x',bk=.box x k∧bk'=.box x' k'∧xs=[x]∧xs'=[x'])
theorem SameShape.ok {bk bk':Blk} {xs xs':List V} {k k':Kd} (h:SameShape bk bk' xs xs' k k') {cx:Cx} {w:World} {μ:Nat→Option Loc} {ow:Ow} {vw:Bool} {id:Nat} (hb:BlkOK cx w μ ow vw id bk):RowOK cx w μ ow vw id xs k:=by
  rcases h with ⟨rfl,_⟩ | ⟨x,x',rfl,_,rfl,_⟩<;>exact hb
theorem VOK.move {cx:Cx} {ow:Ow} {vw:Bool} {ids:List Nat} {id b:Nat} (h:VOK cx ow vw b):VOK cx (moveOw ow ids id) vw b:=
  ⟨h.1.imp moveOw_none fun ⟨q,_,e⟩=>⟨q,moveOw_false e⟩,h.2⟩
def Wk (c c':V):Prop:=c'=c∨(c=.nsl∧c'=.sl [])∨c'=.any
def WkL:List V→List V→Prop
  | [],[]=>True
  | c::cs,c'::cs'=>Wk c c'∧WkL cs cs'
  | _,_=>False
theorem WkL.refl:∀l:List V,WkL l l
  | []=>trivial
  | _::l=>⟨.inl rfl,WkL.refl l⟩
theorem WkL.append:∀{a a' b b':List V},WkL a a'→WkL b b'→WkL (a++b) (a'++b')
  | [],[],_,_,_,h=>h
  | _::_,_::_,_,_,h,k=>⟨h.1,WkL.append h.2 k⟩
  | [],_::_,_,_,h,_=>nomatch h
  | _::_,[],_,_,h,_=>nomatch h
end Go.Vm
namespace Go.Vm
open Go
end Go.Vm
namespace Go.Vm
open Go
end Go.Vm
namespace Go.Vm
open Go
section
variable {α:Type} {f:α→V}
end
end Go.Vm
namespace Go.Vm
open Go
section
variable {τ α:Type} {pre:τ→List V} {sl:τ→List α} {f:α→V} {n:Nat}
end
end Go.Vm
namespace Go.Vm
open Go
def zE:=(And.intro (@get_mk) (And.intro (@look_cons) (And.intro (@look_nil) (And.intro (@set_none) (And.intro (@ev_tmp) (And.intro (@ev_const) (And.intro (@ev_func) (And.intro (@dst_some) (And.intro (@dst_none) (And.intro (@ql8.{0}) (And.intro (@List.nil_append.{0}) (And.intro (@List.cons_append.{0}) (And.intro (@true_and) (And.intro (@and_true) (And.intro (@and_self) (And.intro (@imp_self) (And.intro (@Bool.false_eq_true) (And.intro (@false_implies) (And.intro (@cond_true.{1}) (And.intro (@cond_false.{1}) (And.intro (@decide_eq_true_eq) (And.intro (@eq_self_iff_true.{1}) (And.intro (@exists_eq_left'.{1}) (And.intro (@Option.some.injEq.{0}) (And.intro (@not_false_eq_true) (And.intro (@not_true_eq_false) (@ne_eq.{1})))))))))))))))))))))))))))
def zS:=(And.intro (@settle_int) (And.intro (@settle_bool) (And.intro (@settle_str) (And.intro (@settle_nsl) (And.intro (@settle_sl) (And.intro (@settle_ref) (And.intro (@settle_sub) (And.intro (@settle_ptr) (And.intro (@settle_pv) (And.intro (@settle_tup) (And.intro (@settle_fn) (And.intro (@settle_npt) (And.intro (@settle_agg) (And.intro (@settleL_nil) (And.intro (@settleL_nsl) (And.intro (@settleL_int) (And.intro (@settleL_bool) (And.intro (@settleL_str) (And.intro (@settleL_sl) (And.intro (@settleL_ref) (And.intro (@List.length_nil.{0}) (And.intro (@List.length_cons.{0}) (And.intro (@qlg.{0}) (And.intro (@Nat.zero_add) (And.intro (@Nat.add_zero) (@List.cons_append.{0}))))))))))))))))))))))))))
def zN:=(And.intro (@Nat.zero_lt_one) (And.intro (@Nat.lt_add_one) (And.intro (@Nat.zero_add) (And.intro (@Nat.add_zero) (And.intro (@qlf) (@Nat.zero_lt_succ))))))
def zL:=(And.intro (@List.getElem?_toArray.{0}) (And.intro (@List.getElem?_cons_succ.{0}) (And.intro (@List.getElem?_cons_zero.{0}) (And.intro (@List.getD_cons_zero.{0}) (And.intro (@List.getD_cons_succ.{0}) (And.intro (@List.length_cons.{0}) (And.intro (@List.length_nil.{0}) (And.intro (@List.drop_zero.{0}) (And.intro (@List.drop_succ_cons.{0}) (And.intro (@List.headD_cons.{0}) (And.intro (@List.take_succ_cons.{0}) (And.intro (@List.take_zero.{0}) (And.intro (@List.take_nil.{0}) (And.intro (@List.drop_nil.{0}) (And.intro (@qma.{0,0}) (And.intro (@List.map_nil.{0,0}) (And.intro (@Option.bind_some.{0,0}) (And.intro (@Option.isSome_some.{0}) (@Option.map_some.{0,0})))))))))))))))))))
def zO:=(And.intro (@Bool.or_false) (And.intro (@Bool.false_or) (And.intro (@Bool.or_true) (And.intro (@Bool.true_or) (And.intro (@Bool.not_true) (And.intro (@Bool.not_false) (And.intro (@Bool.and_false) (And.intro (@Bool.and_true) (And.intro (@Bool.false_and) (And.intro (@Bool.true_and) (And.intro (@decide_true) (And.intro (@decide_false) (And.intro (@Bool.or_self) (@Bool.and_self))))))))))))))
def zJ:=(And.intro (@join_ff) (And.intro (@join_ft) (And.intro (@join_fv) (And.intro (@join_d) (And.intro (@join_s) (And.intro (@join_p) (And.intro (@fillK_join0) (And.intro (@List.isEmpty_nil.{0}) (And.intro (@List.isEmpty_cons.{0}) (And.intro (@fillK_join) (And.intro (@List.not_mem_nil.{0}) (And.intro (@List.nodup_nil.{0}) (And.intro (@qlq.{0}) (And.intro (@List.nodup_cons.{0}) (And.intro (@beq_self_eq_true.{0}) (And.intro (@Bool.cond_true.{1}) (And.intro (@Bool.cond_false.{1}) (And.intro (@List.all_cons.{0}) (And.intro (@List.all_nil.{0}) (And.intro (@List.set_cons_zero.{0}) (@List.set_cons_succ.{0})))))))))))))))))))))
def zP:=(And.intro (@Bool.cond_true_right) (And.intro (@Bool.cond_true_left) (And.intro (@Bool.cond_false_right) (@Bool.cond_false_left))))
def zG:=(And.intro (@List.getElem?_toArray.{0}) (And.intro (@List.getElem?_cons_succ.{0}) (And.intro (@List.getElem?_cons_zero.{0}) (@Option.bind_some.{0,0}))))
def zV:=(And.intro (@get_mk) (And.intro (@look_cons) (And.intro (@cond_true.{1}) (And.intro (@cond_false.{1}) (And.intro (@Bool.and_false) (And.intro (@Bool.false_and) (And.intro (@Bool.not_true) (And.intro (@Bool.not_false) (And.intro (@List.getElem?_toArray.{0}) (And.intro (@List.getElem?_cons_succ.{0}) (And.intro (@List.getElem?_cons_zero.{0}) (@Option.bind_some.{0,0}))))))))))))
def zC:=(And.intro (@decide_eq_true_eq) (And.intro (@decide_eq_false_iff_not) (And.intro (@qlc) (And.intro (@Bool.or_eq_true) (And.intro (@Bool.not_eq_true') (And.intro (@Bool.not_eq_false') (And.intro (@Bool.and_eq_false_imp) (And.intro (@Bool.or_eq_false_iff) (And.intro (@Int.not_lt) (And.intro (@Int.not_le) (And.intro (@Bool.true_eq_false) (And.intro (@Bool.false_eq_true) (And.intro (@imp_false) (@Classical.not_imp))))))))))))))
def zM:=(And.intro (@qma.{0,0}) (And.intro (@List.map_nil.{0,0}) (And.intro (@ql8.{0}) (And.intro (@List.flatMap_nil.{0,0}) (And.intro (@ql4.{0}) (And.intro (@List.not_mem_nil.{0}) (And.intro (@or_false) (And.intro (@forall_eq_or_imp.{1}) (And.intro (@forall_eq.{1}) (@false_implies))))))))))
def zW:=(And.intro (@get_mk) (And.intro (@look_cons) (And.intro (@look_nil) (And.intro (@set_none) (And.intro (@ev_tmp) (And.intro (@ev_const) (@ev_func)))))))
def zY:=(And.intro (@ql8.{0}) (And.intro (@List.cons_append.{0}) (And.intro (@List.nil_append.{0}) (And.intro (@List.length_nil.{0}) (And.intro (@List.length_cons.{0}) (And.intro (@Nat.zero_add) (And.intro (@Nat.not_lt_zero) (And.intro (@if_false.{1}) (@Nat.sub_zero)))))))))
theorem rng0:List.range 0=[]:=rfl
theorem rng1:List.range 1=[0]:=rfl
theorem rng2:List.range 2=[0,1]:=rfl
theorem rng3:List.range 3=[0,1,2]:=rfl
theorem rng4:List.range 4=[0,1,2,3]:=rfl
theorem rng5:List.range 5=[0,1,2,3,4]:=rfl
theorem rng6:List.range 6=[0,1,2,3,4,5]:=rfl
theorem rng7:List.range 7=[0,1,2,3,4,5,6]:=rfl
theorem rng8:List.range 8=[0,1,2,3,4,5,6,7]:=rfl
theorem rng9:List.range 9=[0,1,2,3,4,5,6,7,8]:=rfl
theorem rng10:List.range 10=[0,1,2,3,4,5,6,7,8,9]:=rfl
theorem rng11:List.range 11=[0,1,2,3,4,5,6,7,8,9,10]:=rfl
theorem rng12:List.range 12=[0,1,2,3,4,5,6,7,8,9,10,11]:=rfl
theorem flat_mix:Kd.flat.nm=true:=rfl
theorem deep_mix:Kd.deep.nm=true:=rfl
end Go.Vm
namespace Go.Vm
open Go
def Kd.isMix:Kd→Bool
  | .mix | .part=>true
  | _=>false
theorem isMix_flat:Kd.flat.isMix=false:=rfl
theorem isMix_deep:Kd.deep.isMix=false:=rfl
theorem isMix_shal:Kd.shal.isMix=false:=rfl
theorem isMix_thin:Kd.thin.isMix=false:=rfl
theorem isMix_mix:Kd.mix.isMix=true:=rfl
theorem isMix_part:Kd.part.isMix=true:=rfl
theorem isMix_fillK (i:Nat):(fillK i).isMix=false:=by unfold fillK;split<;>rfl
theorem isMix_thK (i:Nat):(thK i).isMix=false:=by unfold thK;split<;>rfl
def Blk.renM (ρ:Nat→Nat):Blk→Blk
  | .dead=>.dead
  | .hid j n=>.hid (ρ j) n
  | .arr xs k=>.arr (bif k.isMix then V.renL ρ xs else xs) k
  | .box x k=>.box (bif k.isMix then V.ren ρ x else x) k
def Blk.onlyM (p:Nat→Bool):Blk→Bool
  | .dead=>true
  | .hid _ _=>false
  | .arr xs k=> !k.isMix || V.onlyL p xs
  | .box x k=> !k.isMix || V.only p x
def St.compM (ids:List Nat) (s:St):St:={s with env:=s.env.map fun p=>(p.1,p.2.ren fun id=>(idx ids id).getD 0),O:=ids.map fun id=>(s.O.getD id .dead).renM fun id=>(idx ids id).getD 0}
theorem renL_map (ρ:Nat→Nat):∀l:List V,V.renL ρ l=l.map (V.ren ρ)
  | []=>by rfl
  | v::l=>by rw [V.renL,renL_map ρ l];rfl
theorem ren_cells (ρ:Nat→Nat) (v:V):(v.ren ρ).cells=v.cells.map (V.ren ρ):=by
  cases v<;>simp only [V.ren,V.cells,List.map_cons,List.map_nil]
  rw [renL_map]
theorem renL_flat (ρ:Nat→Nat) (l:List V):(V.renL ρ l).flatMap V.cells=V.renL ρ (l.flatMap V.cells):=by
  induction l with
  | nil=>rfl
  | cons v l ih=>grind[V.renL,ren_cells,renL_map]
theorem weak_compM {m:Nat} {s:St} (ids:List Nat) (hn:ids.Nodup) (hm:∀j,j < m→ids[j]? =some j) (he:∀p∈s.env,p.2.only (fun id=>(idx ids id).isSome)=true)
    (hb:∀id∈ids,∀bk,s.O[id]? =some bk→bk.onlyM (fun id=>(idx ids id).isSome)=true):Weak m s (s.compM ids):=by
  intro cx a w μ ow hmu h;let ρ:Nat→Nat:=fun id=>(idx ids id).getD 0
  let μ':Nat→Option Loc:=fun j=>(ids[j]?).bind μ
  let ow':Ow:=fun b=>match ow b with
    | some (r,id)=>(idx ids id).map fun j=>(r,j)
    | none=>none
  have o0:∀b,ow b=none→ow' b=none:=fun b e=>by simp [ow',e]
  have o1:∀b id,ow b=some (false,id)→ow' b=none∨∃id',ow' b=some (false,id'):=fun b id e=>by
    cases q:idx ids id with
    | none=>exact .inl (by simp [ow',e,q])
    | some j=>exact .inr ⟨j,by simp [ow',e,q]⟩
  have oin:∀b r id j,ow b=some (r,id)→idx ids id=some j→ow' b=some (r,j):=fun b r id j e q=>by simp [ow',e,q]
  have one:∀b,ow' b≠none→ow b≠none:=fun b hb e=>hb (o0 b e)
  have hμ:∀id l,(idx ids id).isSome=true→μ id=some l→μ' (ρ id)=some l:=by
    intro id l hs e;obtain ⟨j,hj⟩:=qlr.1 hs;have:=idx_spec hj;simp [μ',ρ,hj,this,e]
  let μ2:Nat→Option Loc:=fun id=>if (idx ids id).isSome then μ id else none
  have h2:∀id l,μ2 id=some l→μ' (ρ id)=some l:=by
    intro id l e
    by_cases q:(idx ids id).isSome=true
    · exact hμ id l q (by simpa [μ2,q] using e)
    · simp [μ2,q] at e
  refine ⟨μ',ow',h.dfr,h.sz,fun t=> ?_,fun j bk e=> ?_,fun j hj=> ?_,fun b hb=>h.owl b (one b hb),fun b hb=>h.own b (one b hb),h.frm,fun id l e=> ?_⟩
  · obtain ⟨bl,r1,r2⟩:=h.env t
    show ∃bl,Rep w μ' (look t (s.env.map _)) _ bl∧_;rw [look_ren];have r1':Rep w μ2 (look t s.env) (a.tmps.getD t undef) bl:=Rep.only (p:=fun id=>(idx ids id).isSome) (fun id l hp e=>by simp only [μ2,hp,if_true];exact e) r1 (look_only he t);exact ⟨bl,Rep.ren (ρ:=ρ) h2 r1',fun b hb=>(r2 b hb).mono2 (o0 b) (o1 b)⟩
  · have e' : (ids[j]?).map (fun id=>(s.O.getD id .dead).renM ρ)=some bk:=by rw [←List.getElem?_map];exact e
    rw [Option.map_eq_some_iff] at e';obtain ⟨id,hid,hbk⟩:=e';have hix:idx ids id=some j:=idx_get hn hid;cases hO:s.O[id]? with
    | none=>
      rw [qld,hO] at hbk;simp only [Option.getD_none] at hbk;subst hbk;trivial
    | some bk' =>
      rw [qld,hO] at hbk;simp only [Option.getD_some] at hbk;have hblk:=h.blk id bk' hO;have hbm:=hb id (qlb hid) bk' hO;have key:∀xs k,(k.isMix=true→V.onlyL (fun id=>(idx ids id).isSome) xs=true)→RowOK cx w μ ow s.vw id xs k→RowOK cx w μ' ow' s.vw j (bif k.isMix then V.renL ρ xs else xs) k:=by
        intro xs k hk ⟨l,q1,q2,q3⟩;have q1':μ' j=some l:=by simp [μ',hid,q1]
        have hlen:(bif k.isMix then V.renL ρ xs else xs).length=xs.length:=by
          cases k.isMix
          · rfl
          · rw [cond_true,renL_map,qln]
        refine ⟨l,q1',by rw [hlen];exact q2,?_⟩;rcases q3 with ⟨q3,q3'⟩ | ⟨q3,q4,bl2,q5,q6,q7⟩
        · refine .inl ⟨q3,?_⟩
          subst q3';cases k.isMix
          · rfl
          · rw [cond_true,V.renL]
        · refine .inr ⟨q3,oin _ _ _ _ q4 hix,bl2,?_,?_,fun hne e=>q7 hne (qlu.1 (by rw [←hlen,e];rfl))⟩
          · cases k with
            | flat | thin | deep | shal=>exact q5
            | mix | part=>
              obtain ⟨c1,c2,c3,c,t,vs,c4,c5,c6,c7,c8⟩:=q5;refine ⟨c1,c2,?_,c,t,vs,c4,c5,?_,c7,c8⟩
              · intro x hx
                have hx':x∈V.renL ρ xs:=hx;rw [renL_map] at hx';obtain ⟨y,hy,rfl⟩:=List.mem_map.1 hx';rw [ren_cells,qln];exact c3 y hy
              · show RepL w μ' ((V.renL ρ xs).flatMap V.cells) vs bl2
                rw [renL_flat];have c6':RepL w μ (xs.flatMap V.cells) vs bl2:=c6;exact RepL.ren (ρ:=ρ) h2 (RepL.only (p:=fun id=>(idx ids id).isSome) (μ':=μ2) (fun id l hp e=>by simp only [μ2,hp,if_true];exact e) c6' (onlyL_flat (hk rfl)))
          · cases k with
            | flat | thin=>exact q6
            | deep | part=>exact ⟨q6.1,fun b hb=>oin _ _ _ _ (q6.2 b hb) hix⟩
            | shal | mix=>exact fun b hb=>(q6 b hb).mono2 (o0 b) (o1 b)
      subst hbk;cases bk' with
      | dead=>trivial
      | hid j' n'=>simp [Blk.onlyM] at hbm
      | arr xs k=>exact key xs k (fun q=>by simpa [Blk.onlyM,q] using hbm) hblk
      | box x k=>
        have:=key [x] k (fun q=>by simpa [Blk.onlyM,q,V.onlyL] using hbm) hblk;show RowOK cx w μ' ow' s.vw j [bif k.isMix then V.ren ρ x else x] k;cases hq:k.isMix with
        | false=>rw [hq] at this;exact this
        | true=>rw [hq,cond_true,V.renL,V.renL] at this;exact this
  · have:ids[j]? =none:=qlm (by simpa [St.compM] using hj)
    simp [μ',this]
  · have hlt:id < m:=by
      rcases qlp id m with q | q
      · exact q
      · rw [hmu id q] at e;cases e
    have:=h.mu id l e;simp [μ',hm id hlt,this]
theorem weak_bothM {m:Nat} {s s':St} (ks ids:List Nat) (hn:ids.Nodup) (hm:∀j,j < m→ids[j]? =some j) (he:∀p∈(s.keep ks).env,p.2.only (fun id=>(idx ids id).isSome)=true)
    (hb:∀id∈ids,∀bk,s.O[id]? =some bk→bk.onlyM (fun id=>(idx ids id).isSome)=true) (e:(s.keep ks).compM ids=s'):Weak m s s':=
  e ▸ weak_trans (weak_keep ks s) (weak_compM ids hn hm he hb)
theorem RepL.len {w:World} {μ:Nat→Option Loc}:∀{xs:List V} {vs:List Value} {bl:List Nat},RepL w μ xs vs bl→vs.length=xs.length
  | _,_,_,.nil=>rfl
  | _,_,_,.cons v x bl vs xs bl' h ht=>by rw [List.length_cons,List.length_cons,RepL.len ht]
def newIds (m:Nat) (v:V):List Nat:=(refsOf v).filter fun id=>Nat.ble m id
theorem ret_viewX {m:Nat} {s:St} {v:V} {R:V→List Blk→Prop} (hR:R (v.ren (outNo m (newIds m v))) (s.O.take m++(newIds m v).map (fun id=>s.O.getD id .dead))) (hw:s.vw=false:=by rfl)
    (h2:v.only (fun id=>Nat.blt id m || (idx (newIds m v) id).isSome)=true:=by rfl) (h3:(newIds m v).Nodup:=by first | decide | simp [newIds,refsOf,refs2,refs1]) (hm:m≤s.O.length:=by simp)
    (h6:∀bk∈s.O.take m++(newIds m v).map (fun id=>s.O.getD id .dead),bk.kindIs (fun k=>k.nm)=true:=by simp [newIds,refsOf,refs2,refs1,Blk.kindIs,fillK_mix]):∃r O',R r O'∧RetOK m s v r O':=
  ⟨_,_,hR,by
    unfold RetOK;exact ⟨⟨h2,h3,hm⟩,rfl,rfl,h6,.inl hw⟩⟩
theorem rho_s (id n j:Nat):rho [id] n (j+1)=n+j:=by rfl
theorem aCall_guard0 {P:Program} {s:St} {f:FuncId} {args args':List V} {r:V} {K:V→Prop} {G:Prop} (hc:G→Con P f args' [] r []) (ht:toArgs s [] args=some args')
    (hr:r.only (fun _=>false)=true) (hcl:r.clean=true) (hk:K r):∃r,(G→aCall P s f [] args fun v s'=>v=r∧s'={s with O:=s.O++[]})∧K r:=
  ⟨r,fun g=>aCall_new (hc g) ht (.inl ⟨hcl,by simp⟩) ⟨ren_only (by simp) hr,rfl⟩,hk⟩
theorem v_join {P:Program} {L:Lend} {m:Nat} {Q:AEx→St→Prop} {s:St} {x y:Code} {A:Type} (S:A→St) (ok:A→Prop)
    (h1:∀Q':AEx→St→Prop,(∀p s,ok p→Weak m s (S p)→Q' .normal s)→(∀i s,Q (.exit i) s→Q' (.exit i) s)→(∀s,Q .ret s→Q' .ret s)→awp P L m x Q' s)
    (h2:∀p,ok p→awp P L m y Q (S p)):awp P L m (.seq x y) Q s:=
  v_seq fun Q' hn he hr=>h1 Q' (fun p s hok hw=>hn s (S p) hw (h2 p hok)) he hr
theorem v_seqR {P:Program} {L:Lend} {m:Nat} {Q:AEx→St→Prop} {s:St} {id:Nat} {ops:Array Oper} {y:Code} (ks:List Nat)
    (h:∀K:St→Prop,(∀s,awp P L m y Q (s.keep ks)→K s)→aOps P L ops K ops.toList s):awp P L m (.seq (.region id ops false) y) Q s:=
  v_seq fun _ hn _ _=>v_region fun K k=>h K fun s q=>k s (hn s (s.keep ks) (weak_keep ks s) q)
theorem aCall_newX {P:Program} {s:St} {f:FuncId} {args args':List V} {R:V→List Blk→Prop} {K:V→St→Prop} (hc:ConX P f args' [] R) (ht:toArgs s [] args=some args')
    (h:∀r O',R r O'→((r.clean=true∧∀bk∈O',bk.kindIs (fun k=>k != .shal && k.nm)=true)∨(∀x∈args,x.coldIn []=true))∧K (r.ren (rho [] s.O.length)) {s with O:=s.O++O'}):aCall P s f [] args K:=
  .inr ⟨s.O,.inl rfl,args',[],R,ht,rfl,List.nodup_nil,by simp,.inr (by simp),hc,fun r O' hR=>⟨(h r O' hR).1,by unfold setBlks;exact (h r O' hR).2⟩⟩
theorem aCall_lentX {P:Program} {s:St} {f:FuncId} {args args':List V} {bk:Blk} {R:V→List Blk→Prop} {K:V→St→Prop} (id:Nat) (hc:ConX P f args' [bk] R) (ht:toArgs s [id] args=some args')
    (hO:s.O[id]? =some bk) (hbk:bk.kindIs (fun k=>k.nm)=true∧bk≠.dead) (hv:s.vw=false∨bk.kindIs (fun k=>k == .flat)=true)
    (h:∀r O',R r O'→∃bk' O1,O'=bk'::O1∧((r.clean=true∧∀b∈O',b.kindIs (fun k=>k != .shal && k.nm)=true)∨(∀x∈args,x.coldIn [id]=true))∧K (r.ren (rho [id] s.O.length)) {s with O:=s.O.set id bk'++O1}):aCall P s f [id] args K:=
  .inr ⟨s.O,.inl rfl,args',[bk],R,ht,by simp [hO],by simp,by simpa using hbk,hv.imp (fun h=>h) (fun h=>by simpa using h),hc,fun r O' hR=>by
    obtain ⟨bk',O1,e,h1,h2⟩:=h r O' hR;subst e;exact ⟨h1,by simpa [setBlks] using h2⟩⟩
theorem aCall_lent2X {P:Program} {s:St} {f:FuncId} {args args':List V} {bk bk2:Blk} {R:V→List Blk→Prop} {K:V→St→Prop} (i j:Nat) (hc:ConX P f args' [bk,bk2] R) (ht:toArgs s [i,j] args=some args')
    (hO:s.O[i]? =some bk) (hO2:s.O[j]? =some bk2) (hn:i≠j) (hbk:(bk.kindIs (fun k=>k.nm)=true∧bk≠.dead)∧(bk2.kindIs (fun k=>k.nm)=true∧bk2≠.dead)) (hv:s.vw=false)
    (h:∀r O',R r O'→∃b1 b2 O1,O'=b1::b2::O1∧((r.clean=true∧∀b∈O',b.kindIs (fun k=>k != .shal && k.nm)=true)∨(∀x∈args,x.coldIn [i,j]=true))∧K (r.ren (rho [i,j] s.O.length)) {s with O:=(s.O.set i b1).set j b2++O1}):aCall P s f [i,j] args K:=
  .inr ⟨s.O,.inl rfl,args',[bk,bk2],R,ht,by simp [hO,hO2],by simp [hn],by
    intro b hb;rcases ql4.1 hb with rfl | hb
    · exact hbk.1
    · rw [qlq] at hb;subst hb;exact hbk.2,.inl hv,hc,fun r O' hR=>by
    obtain ⟨b1,b2,O1,e,h1,h2⟩:=h r O' hR;subst e;exact ⟨h1,by simpa [setBlks] using h2⟩⟩
theorem rho2_s (i j n m:Nat):rho [i,j] n (m+2)=n+m:=by
  rfl
theorem rho2_0 (i j n:Nat):rho [i,j] n 0=i:=rfl
theorem rho2_1 (i j n:Nat):rho [i,j] n 1=j:=rfl
end Go.Vm
namespace Go.Vm
open Go Go.RowKit
theorem tab_mem {P:Program} {n:String} {q:Array Value→Prop} {g:Nat} (hg:P.globalNamed n=some g):(g,q)∈tabAt P n q:=by grind[tabAt]
theorem tabs_pow {P:Program} {w:World} (h:TabsIn w (tabsOf P)) {g:Nat} (hg:P.globalNamed "internal/strconv.uint64pow10" =some g):∃c t fr,w.heap[g]? =some (.cells c t fr)∧isPow c:=
  h _ (ql2 _ (tab_mem hg))
theorem tabs_syn {P:Program} {w:World} (h:TabsIn w (tabsOf P)) {g:Nat} (hg:P.globalNamed "strconv.ErrSyntax" =some g):∃c t fr,w.heap[g]? =some (.cells c t fr)∧isErr c:=
  h _ (qlw _ (ql2 _ (tab_mem hg)))
theorem tabs_rng {P:Program} {w:World} (h:TabsIn w (tabsOf P)) {g:Nat} (hg:P.globalNamed "strconv.ErrRange" =some g):∃c t fr,w.heap[g]? =some (.cells c t fr)∧isErr c:=
  h _ (qlw _ (qlw _ (tab_mem hg)))
theorem tabIs_of {P:Program} {g:Nat} (hg:P.globalNamed "internal/strconv.uint64pow10" =some g) {w:World} (h:TabsIn w (tabsOf P)) :
    Lib.TabIs P w "internal/strconv.uint64pow10" .u64 Lib.pow10Tab:=by
  obtain ⟨c,t,fr,q,e⟩:=tabs_pow h hg;rw [e] at q
  grind[Lib.TabIs,World.var?]
theorem tabsIn_app {w:World} {l1 l2:List (Nat×(Array Value→Prop))} (h1:TabsIn w l1) (h2:TabsIn w l2):TabsIn w (l1++l2):=fun p hp=>(qlh.1 hp).elim (h1 p) (h2 p)
theorem tabsIn_none {P:Program} {n:String} {q:Array Value→Prop} {w:World} (h:P.globalNamed n=none):TabsIn w (tabAt P n q):=by
  intro p hp
  grind[tabAt]
theorem tabsIn_err {P:Program} {n:String} {w:World} (h:P.globalNamed n=none∨∃te pe,w.var? P n=some #[.iface te pe]):TabsIn w (tabAt P n isErr):=by
  rcases h with h | ⟨te,pe,h⟩
  · exact tabsIn_none h
  intro p hp;unfold tabAt at hp;unfold World.var? at h;cases hg:P.globalNamed n with
  | none=>grind
  | some g=>
    rw [hg] at hp h;simp only [List.mem_singleton] at hp;subst hp;simp only [Option.bind_some] at h;split at h
    · rename_i cs t fr e
      simp only [Option.some.injEq] at h;exact ⟨cs,t,fr,e,te,pe,h⟩
    grind
theorem tabsIn_pow {P:Program} {w:World} (h:Lib.TabIs P w "internal/strconv.uint64pow10" .u64 Lib.pow10Tab):TabsIn w (tabAt P "internal/strconv.uint64pow10" isPow):=by
  intro p hp;unfold tabAt at hp;unfold Lib.TabIs World.var? at h
  cases hg:P.globalNamed "internal/strconv.uint64pow10" with
  | none=>grind
  | some g=>
    rw [hg] at hp h;simp only [List.mem_singleton] at hp;subst hp;simp only [Option.bind_some] at h;split at h
    · rename_i cs t fr e
      simp only [Option.some.injEq] at h;exact ⟨cs,t,fr,e,h⟩
    grind
theorem con_int1 {P:Program} {f:FuncId} {n:Int} {r:V} {rv:Value} (hf:∃fn,P.funcs[f]? =some fn∧(fn.name == "runtime.NumGoroutine")=false∧fn.body.isNone=false) (hr:∀w μ,Rep w μ r rv [])
    (h:∀w,TabsIn w (tabsOf P)→Calls P f #[.int .i64 n] w fun e w'=>e=.returned rv∧∃k os,w'=Sort.grow (w.drewN k) os):Con P f [.int .i64 n] [] r []:=by
  refine ⟨hf,fun w vals μ ow vis hi=> ?_⟩;have h0:vals.getD 0 undef=.int .i64 n:=by
    obtain ⟨bl,r0,_⟩:=hi.arg 0 _ rfl;generalize vals.getD 0 undef=x at r0⊢;cases r0;rfl
  have hs:vals.size=1:=hi.sz;have hv:vals=#[.int .i64 n]:=by
    apply Array.ext
    · omega
    simp_all
  subst hv;refine (h w fun p hp=>(hi.tab p hp).2).mono ?_;rintro e w' ⟨rfl,k,os,rfl⟩;have hold:∀b,b < w.heap.size→(Sort.grow (w.drewN k) os).heap[b]? =w.heap[b]? :=fun b hb=>Sort.heap_grow_old (w.drewN k) os hb
  refine ⟨rv,μ,ow,rfl,⟨⟨[],hr _ _,by simp⟩,by simp,by simp,MLe.refl _,qlf _,hi.dom,fun b hb=>(hi.owl b hb).keep (hold b (hi.owl b hb).lt),fun b hb=>.inl hb,⟨?_,fun b hb _=>hold b hb,rfl,rfl,rfl,fun x hx=> ?_,fun _ hp=>nomatch hp⟩⟩⟩
  · simp
  · exact Sort.frozen?_grow (w.drewN k) os x hx
def numB (n:Nat):ByteArray:=⟨(Lib.decDigits n).toArray⟩
theorem numB_lt {n:Nat} (h:n < 10):numB n=⟨#[UInt8.ofNat (48+n)]⟩:=by
  simp_all[numB,Lib.decDigits,dif_pos]
theorem numB_ge {n:Nat} (h:¬n < 10):numB n=numB (n / 10)++⟨#[UInt8.ofNat (48+n % 10)]⟩:=by
  unfold numB
  conv=>lhs;rw [Lib.decDigits,dif_neg h]
  rfl
theorem itoa_nat {n:Int} (h:0≤n):(⟨(Lib.itoa n).toArray⟩:ByteArray)=numB n.toNat:=by
  simp_all[Lib.itoa,numB,if_neg]
theorem numB_size:∀(k n:Nat),n < 10 ^ k→0 < k→(numB n).size≤k
  | 0,n,_,h=>by omega
  | 1,n,h,_=>by rw [numB_lt (by omega)];exact qlf 1
  | k + 2,n,h,_=>by
    by_cases q:n < 10
    · rw [numB_lt q];show 1≤k+2;omega
    · rw [numB_ge q,qlz]
      have:=numB_size (k+1) (n / 10) (by grind) (by omega);have e:(⟨#[UInt8.ofNat (48+n % 10)]⟩:ByteArray).size=1:=rfl;omega
def joinB (ws:List ByteArray) (sep:ByteArray):ByteArray:=⟨(Lib.join (ws.map (·.data.toList)) sep.data.toList).toArray⟩
theorem strs_rep {w:World} {μ:Nat→Option Loc}:∀(ws:List ByteArray) {vs:List Value} {bl:List Nat},RepL w μ ((ws.map V.str).flatMap V.cells) vs bl→vs=ws.map Value.string
  | [],_,_,.nil=>rfl
  | a ::ws,_,_,h=>by
    rw [qma,qls] at h;cases h with
    | cons _ x _ _ xs _ h ht=>
      cases h;rw [strs_rep ws ht,qma]
theorem con_join {P:Program} {f:FuncId} {ws:List ByteArray} {sep:ByteArray} (hf:∃fn,P.funcs[f]? =some fn∧(fn.name == "runtime.NumGoroutine")=false∧fn.body.isNone=false)
    (h0:∀(a:Option Addr) (c:Nat) (w:World),Calls P f #[.slice a 0 c,.string sep] w fun e w'=>e=.returned (.string ⟨#[]⟩)∧w'=w)
    (h:∀(b o c:Nat) (w:World),(∀(j:Nat) x,ws[j]? =some x→w.cell? ⟨b,o+j,none⟩=some (.string x))→b < w.heap.size→ws.length≤c→
      Calls P f #[.slice (some ⟨b,o,none⟩) ws.length c,.string sep] w fun e w'=>e=.returned (.string (joinB ws sep))∧Below w.heap.size w w'):Con P f [.sl (ws.map V.str),.str sep] [] (.str (joinB ws sep)) []:=by
  refine ⟨hf,fun w vals μ ow vis hi=> ?_⟩;have hs:vals.size=2:=hi.sz;have h1:vals.getD 1 undef=.string sep:=by
    obtain ⟨bl,r0,_⟩:=hi.arg 1 _ rfl;generalize vals.getD 1 undef=x at r0⊢;cases r0;rfl
  obtain ⟨bl,r0,rv⟩:=hi.arg 0 _ rfl;have hv:vals=#[vals.getD 0 undef,.string sep]:=by
    apply Array.ext
    · omega
    · intro i hi1 hi2
      have hi3:i < 2:=by omega
      have e:vals.getD i undef=vals[i]:=by simp_all
      grind
  have key:Calls P f #[vals.getD 0 undef,.string sep] w fun e w'=>e=.returned (.string (joinB ws sep))∧Below w.heap.size w w':=by
    generalize hx:vals.getD 0 undef=x at r0⊢;generalize hxs:ws.map V.str=xs at r0;cases r0 with
    | sl0 a c=>
      have hw:ws=[]:=by cases ws with | nil=>rfl | cons a b=>grind
      subst hw;exact (h0 a c w).mono fun e w' ⟨he,hw⟩=>⟨he,hw ▸ Below.refl _ _⟩
    | sl _ b off c sz vs bl' g0 hc hs hz hl h1 hr=>
      subst hxs;have hvs:=strs_rep ws hl;subst hvs;have hne:ws≠[]:=fun e=>g0 (by grind)
      rw [qln];refine h b off c w (fun j x hj=>hr j _ (by grind)) ?_ (by grind);cases ws with
      | nil=>grind
      | cons a ws=>exact Row.lt (vs:=ws.map Value.string) (by simpa using hr)
  rw [hv];refine key.mono ?_;rintro e w' ⟨rfl,hb⟩;have hold:∀b,b < w.heap.size→w'.heap[b]? =w.heap[b]? :=fun b hlt=>hb.block b hlt
  exact ⟨_,μ,ow,rfl,⟨⟨[],.str _,by simp⟩,by simp,by simp,MLe.refl _,qlf _,hi.dom,fun b hb'=>(hi.owl b hb').keep (hold b (hi.owl b hb').lt),fun b hb=>.inl hb,
    ⟨hb.size,fun b hlt _=>hold b hlt,hb.os,hb.tape,hb.output,fun x hx=>by grind[World.frozen?],fun _ hp=>nomatch hp⟩⟩⟩
end Go.Vm
namespace Go.Vm
open Go
structure Tys (p:Prop):Prop where
  h:p
structure Fc (p:Prop):Prop where
  h:p
structure Ho (p:Prop):Prop where
  h:p
structure Sd (p:Prop):Prop where
  h:p
theorem setAll {xs:List V} {i n:Nat} {y:V} (h:∀x∈xs,x.cells.length=n) (hy:y.cells.length=n):∀x∈xs.set i y,x.cells.length=n:=by
  intro x hx;rcases List.mem_or_eq_of_mem_set hx with q | q
  · exact h x q
  · rw [q];exact hy
theorem gdm {α:Type} {l:List α} {i:Nat} {x:α} (h:l[i]? =some x):∀f:α→V,(l.map f).getD i .any=f x:=fun _=>getD_map h
theorem ai {a b:Prop} (h:a) (k:b):a∧b:=⟨h,k⟩
theorem andA {A B:Prop} (b:B) (a:A:=by first | omega | (intros;omega) | (exact fill_all (fun _=>rfl) rfl) | (exact setAll (fun x hx=>by obtain ⟨t,_,rfl⟩:=List.mem_map.1 hx;rfl) rfl) | (have q:=‹Sd _›;exact q.h _) | (intros;simp_all;done) | (intros;simp_all;omega)):A∧B:=⟨a,b⟩
theorem andC {A B:Prop} (b:B) (a:A:=by first | rfl | (intros;simp_all;done)):A∧B:=⟨a,b⟩
theorem v_passB {P:Program} {L:Lend} {s:St} {rg:Array Oper} {K:St→Prop} {o:Oper} {rest:List Oper} {d j:Nat} {want:Bool} (hd:o.dst=some d) (hn:Nat.blt d s.n=true) (hg:o.guard=some (j,want)) (hv:guardV s rg j want=some false) (h:aOps P L rg K rest (s.set (some d) (.opt false .any))):aOps P L rg K (o::rest) s:=
  v_pass d j want hd (by rwa [Nat.blt_eq] at hn) hg hv h
theorem zAlloc {A B:Prop} (b:Ho B) (e:Ho B→A:=by
  intro b;refine v_op ?_;intro K k;simp only [zE,zS,zO,zN,aStepM,optable,set_some,Nat.reduceEqDiff,reduceIte,Nat.reduceLT,implies_true,forall_const,reduceCtorEq,V.ofValue,V.ofScalar,V.un,V.gd,aExec,aop,Nat.reduceAdd,Value.oneCell',V.isVal,V.cells,kindOf,kindAll,V.noSl,V.noRef,List.all_cons,List.all_nil,List.map_cons,List.map_nil,gt_iff_lt,Nat.reduceLeDiff,Nat.reduceMul,contentL,‹Tys _›.h,‹Fc _›.h];repeat (refine andA ?_)
  refine k _ ?_;clear k K;exact b.h):A:=e b
theorem zAppend {A B:Prop} (b:Ho B) (e:Ho B→A:=by
  intro b;refine v_op ?_;intro K k;simp only [zE,zL,zO,zN,aStepM,optable,set_some,Nat.reduceEqDiff,reduceIte,Nat.reduceLT,implies_true,forall_const,reduceCtorEq,V.ofValue,V.ofScalar,V.un,V.gd,aExec,aop,fillK_thin,beq_self_eq_true,List.nodup_cons,List.mem_singleton,forall_eq',List.size_toArray,List.getD_eq_getElem?_getD,Array.getD_eq_getD_getElem?,Option.getD_some,aAppend,destOf,srcOf,takeElems,takeV,takeCell,takeCells,row_mk,Blk.row,killAll,V.isSub,V.noSl,Value.cells,Option.toList,List.forall_mem_map,List.length_map,List.all_cons,List.all_nil,List.isEmpty_nil,List.isEmpty_cons,List.not_mem_nil,List.nodup_nil,join_ff,join_ft,join_fv,join_d,join_s,fillK_join0,fillK_join,List.mem_cons,or_false,forall_eq_or_imp,forall_eq,List.set_cons_zero,List.set_cons_succ,List.length_append,Go.Vm.V.cells,Nat.reduceAdd,Nat.reduceLeDiff,Nat.reduceMul,contentL,Value.oneCell',‹Tys _›.h,‹Fc _›.h];repeat (refine andA ?_)
  refine k _ ?_;clear k K;exact b.h):A:=e b
theorem zAssign {A B:Prop} (b:Ho B) (e:Ho B→A:=by
  intro b;refine v_op ?_;intro K k;simp only [zE,zS,aStepM,optable,set_some,Nat.reduceEqDiff,reduceIte,Nat.reduceLT,implies_true,forall_const,reduceCtorEq,V.ofValue,V.ofScalar,V.un,V.gd,aExec,aop,Nat.reduceAdd,contentL,Value.oneCell',List.all_cons,List.all_nil,Bool.and_self,‹Tys _›.h,‹Fc _›.h];repeat (refine andA ?_)
  refine k _ ?_;clear k K;exact b.h):A:=e b
theorem zBinOp {A B:Prop} (b:Ho B) (e:Ho B→A:=by
  intro b;refine v_op ?_;intro K k;simp only [zE,aStepM,optable,set_some,Nat.reduceEqDiff,reduceIte,Nat.reduceLT,implies_true,forall_const,reduceCtorEq,V.ofValue,V.ofScalar,V.un,V.gd,aExec,aop,aBin,isNil,or_true,true_or,or_false,false_or,EK.fitsL,EK.fits,cellsEq,cellEq,contentL,Value.oneCell',List.all_cons,List.all_nil,Bool.and_self,‹Tys _›.h,‹Fc _›.h];repeat (refine andA ?_)
  refine k _ ?_;clear k K;exact b.h):A:=e b
theorem zBinOpW {A B:Prop} (b:Ho B) (e:Ho B→A:=by
  intro b;refine v_op ?_;intro K k;simp only [zE,aStepM,optable,set_some,Nat.reduceEqDiff,reduceIte,Nat.reduceLT,implies_true,forall_const,reduceCtorEq,V.ofValue,V.ofScalar,V.un,V.gd,aExec,aop,aBin,isNil,or_true,true_or,or_false,false_or,EK.fitsL,EK.fits,cellsEq,cellEq,contentL,Value.oneCell',List.all_cons,List.all_nil,Bool.and_self,‹Tys _›.h,‹Fc _›.h];try simp (disch:=omega) only [wrap64]
  repeat (refine andA ?_)
  refine k _ ?_;clear k K;exact b.h):A:=e b
theorem zgBinOp {A B:Prop} (b:Ho B) (e:Ho B→A:=by
  intro b;first
  | refine v_passB rfl rfl rfl ?_ ?_
    · first | rfl | (simp only [zV,guardV,Nat.reduceEqDiff,reduceIte];done)
    simp only [zW,set_some,Nat.reduceEqDiff,reduceIte]
  | skip
    refine v_op ?_;intro K k;simp only [zE,zG,aStepM,optable,set_some,Nat.reduceEqDiff,reduceIte,Nat.reduceLT,implies_true,forall_const,reduceCtorEq,V.ofValue,V.ofScalar,V.un,V.gd,guardV,V.wrap,aExec,aop,aBin,isNil,or_true,true_or,or_false,false_or,EK.fitsL,EK.fits,cellsEq,cellEq,contentL,Value.oneCell',List.all_cons,List.all_nil,Bool.and_self,‹Tys _›.h,‹Fc _›.h];repeat (refine andA ?_)
    refine k _ ?_;clear k K
  exact b.h):A:=e b
theorem zgBinOpW {A B:Prop} (b:Ho B) (e:Ho B→A:=by
  intro b;first
  | refine v_passB rfl rfl rfl ?_ ?_
    · first | rfl | (simp only [zV,guardV,Nat.reduceEqDiff,reduceIte];done)
    simp only [zW,set_some,Nat.reduceEqDiff,reduceIte]
  | skip
    refine v_op ?_;intro K k;simp only [zE,zG,aStepM,optable,set_some,Nat.reduceEqDiff,reduceIte,Nat.reduceLT,implies_true,forall_const,reduceCtorEq,V.ofValue,V.ofScalar,V.un,V.gd,guardV,V.wrap,aExec,aop,aBin,isNil,or_true,true_or,or_false,false_or,EK.fitsL,EK.fits,cellsEq,cellEq,contentL,Value.oneCell',List.all_cons,List.all_nil,Bool.and_self,‹Tys _›.h,‹Fc _›.h];try simp (disch:=omega) only [wrap64]
    repeat (refine andA ?_)
    refine k _ ?_;clear k K
  exact b.h):A:=e b
theorem zBox {A B:Prop} (b:Ho B) (e:Ho B→A:=by
  intro b;refine v_op ?_;intro K k;simp only [zE,zS,zO,zN,aStepM,optable,set_some,Nat.reduceEqDiff,reduceIte,Nat.reduceLT,implies_true,forall_const,reduceCtorEq,V.ofValue,V.ofScalar,V.un,V.gd,aExec,aop,Nat.reduceAdd,V.isVal,V.cells,kindOf,kindAll,V.noSl,V.noRef,List.all_cons,List.all_nil,List.length_map,gt_iff_lt,Nat.reduceLeDiff,Nat.reduceMul,contentL,Value.oneCell',‹Tys _›.h,‹Fc _›.h];repeat (refine andA ?_)
  refine k _ ?_;clear k K;exact b.h):A:=e b
theorem zBuild {A B:Prop} (b:Ho B) (e:Ho B→A:=by
  intro b;refine v_op ?_;intro K k;simp only [zE,zL,zO,zN,aStepM,optable,set_some,Nat.reduceEqDiff,reduceIte,Nat.reduceLT,implies_true,forall_const,reduceCtorEq,V.ofValue,V.ofScalar,V.un,V.gd,aExec,aop,fillV,if_true,Nat.zero_mul,Nat.one_mul,Nat.mul_one,V.isVal,V.cells,List.mem_cons,List.not_mem_nil,or_false,forall_eq_or_imp,forall_eq,Nat.reduceAdd,Nat.reduceLeDiff,Nat.reduceMul,contentL,Value.oneCell',List.all_cons,List.all_nil,‹Tys _›.h,‹Fc _›.h];repeat (refine andA ?_)
  refine k _ ?_;clear k K;exact b.h):A:=e b
theorem zBuildSlice {A B:Prop} (b:Ho B) (e:Ho B→A:=by
  intro b;refine v_op ?_;intro K k;simp only [zE,zO,zN,aStepM,optable,set_some,Nat.reduceEqDiff,reduceIte,Nat.reduceLT,implies_true,forall_const,reduceCtorEq,V.ofValue,V.ofScalar,V.un,V.gd,aExec,aop,litElems,rng0,rng1,rng2,rng3,rng4,rng5,rng6,rng7,rng8,rng9,rng10,rng11,rng12,List.map_cons,List.map_nil,List.all_cons,List.all_nil,V.isVal,V.cells,content,contentL,kindAll,V.noRef,V.noSl,List.mem_cons,List.not_mem_nil,or_false,forall_eq_or_imp,forall_eq,if_true,Option.isSome_some,List.length_cons,List.length_nil,Nat.reduceAdd,Nat.reduceLeDiff,Nat.reduceMul,Value.oneCell',‹Tys _›.h,‹Fc _›.h];repeat (refine andA ?_)
  refine k _ ?_;clear k K;exact b.h):A:=e b
theorem zConvert {A B:Prop} (b:Ho B) (e:Ho B→A:=by
  intro b;refine v_op ?_;intro K k;simp only [zE,zL,zN,aStepM,optable,set_some,Nat.reduceEqDiff,reduceIte,Nat.reduceLT,implies_true,forall_const,reduceCtorEq,V.ofValue,V.ofScalar,V.un,V.gd,aExec,aop,unByte,row_mk,Blk.row,TypeDesc.slice.injEq,Nat.reduceAdd,Nat.reduceLeDiff,Nat.reduceMul,contentL,Value.oneCell',List.all_cons,List.all_nil,Bool.and_self,‹Tys _›.h,‹Fc _›.h];repeat (refine andA ?_)
  refine k _ ?_;clear k K;exact b.h):A:=e b
theorem zExtract {A B:Prop} (b:Ho B) (e:Ho B→A:=by
  intro b;refine v_op ?_;intro K k;simp only [zE,zL,zN,aStepM,optable,set_some,Nat.reduceEqDiff,reduceIte,Nat.reduceLT,implies_true,forall_const,reduceCtorEq,V.ofValue,V.ofScalar,V.un,V.gd,aExec,aop,aExtract,Nat.reduceAdd,Nat.reduceLeDiff,Nat.reduceMul,contentL,Value.oneCell',List.all_cons,List.all_nil,Bool.and_self,‹Tys _›.h,‹Fc _›.h];repeat (refine andA ?_)
  refine k _ ?_;clear k K;exact b.h):A:=e b
theorem zFieldAddr {A B:Prop} (b:Ho B) (e:Ho B→A:=by
  intro b;refine v_op ?_;intro K k;simp only [zE,zL,zN,aStepM,optable,set_some,Nat.reduceEqDiff,reduceIte,Nat.reduceLT,implies_true,forall_const,reduceCtorEq,V.ofValue,V.ofScalar,V.un,V.gd,aExec,aop,aFieldAddr,Nat.reduceAdd,Nat.reduceLeDiff,Nat.reduceMul,contentL,Value.oneCell',List.all_cons,List.all_nil,Bool.and_self,‹Tys _›.h,‹Fc _›.h];repeat (refine andA ?_)
  refine k _ ?_;clear k K;exact b.h):A:=e b
theorem zgFieldAddr {A B:Prop} (b:Ho B) (e:Ho B→A:=by
  intro b;first
  | refine v_passB rfl rfl rfl ?_ ?_
    · first | rfl | (simp only [zV,guardV,Nat.reduceEqDiff,reduceIte];done)
    simp only [zW,set_some,Nat.reduceEqDiff,reduceIte]
  | skip
    refine v_op ?_;intro K k;simp only [zE,zL,zN,aStepM,optable,set_some,Nat.reduceEqDiff,reduceIte,Nat.reduceLT,implies_true,forall_const,reduceCtorEq,V.ofValue,V.ofScalar,V.un,V.gd,guardV,V.wrap,aExec,aop,aFieldAddr,Nat.reduceAdd,Nat.reduceLeDiff,Nat.reduceMul,contentL,Value.oneCell',List.all_cons,List.all_nil,Bool.and_self,‹Tys _›.h,‹Fc _›.h];repeat (refine andA ?_)
    refine k _ ?_;clear k K
  exact b.h):A:=e b
theorem zIndex {A B:Prop} (b:Ho B) (e:Ho B→A:=by
  intro b;refine v_op ?_;intro K k;simp only [zE,zL,zN,aStepM,optable,set_some,Nat.reduceEqDiff,reduceIte,Nat.reduceLT,implies_true,forall_const,reduceCtorEq,V.ofValue,V.ofScalar,V.un,V.gd,aExec,aop,aIndex,Int.toNat_natCast,Int.reduceToNat,Nat.reduceAdd,Nat.reduceLeDiff,Nat.reduceMul,contentL,Value.oneCell',List.all_cons,List.all_nil,Bool.and_self,‹Tys _›.h,‹Fc _›.h];repeat (refine andA ?_)
  refine k _ ?_;clear k K;exact b.h):A:=e b
theorem zIndexAddr {A B:Prop} (b:Ho B) (e:Ho B→A:=by
  intro b;refine v_op ?_;intro K k;simp only [zE,zL,zN,aStepM,optable,set_some,Nat.reduceEqDiff,reduceIte,Nat.reduceLT,implies_true,forall_const,reduceCtorEq,V.ofValue,V.ofScalar,V.un,V.gd,aExec,aop,List.mem_cons,List.not_mem_nil,or_false,forall_eq_or_imp,forall_eq,aIndexAddr,row_mk,Blk.row,Go.Vm.V.cells,List.forall_mem_map,List.length_map,Int.toNat_natCast,Int.reduceToNat,TypeDesc.slice.injEq,Nat.reduceAdd,Nat.reduceLeDiff,Nat.reduceMul,contentL,Value.oneCell',List.all_cons,List.all_nil,Bool.and_self,‹Tys _›.h,‹Fc _›.h];repeat (refine andA ?_)
  refine k _ ?_;clear k K;exact b.h):A:=e b
theorem zLen {A B:Prop} (b:Ho B) (e:Ho B→A:=by
  intro b;refine v_op ?_;intro K k;simp only [zE,zL,zN,aStepM,optable,set_some,Nat.reduceEqDiff,reduceIte,Nat.reduceLT,implies_true,forall_const,reduceCtorEq,V.ofValue,V.ofScalar,V.un,V.gd,aExec,aop,List.length_map,aLen,lenOK,row_mk,Blk.row,List.size_toArray,List.getD_eq_getElem?_getD,Array.getD_eq_getD_getElem?,Option.getD_some,Nat.reduceAdd,Nat.reduceLeDiff,Nat.reduceMul,contentL,Value.oneCell',List.all_cons,List.all_nil,Bool.and_self,‹Tys _›.h,‹Fc _›.h];repeat (refine andA ?_)
  refine k _ ?_;clear k K;exact b.h):A:=e b
theorem zgLen {A B:Prop} (b:Ho B) (e:Ho B→A:=by
  intro b;first
  | refine v_passB rfl rfl rfl ?_ ?_
    · first | rfl | (simp only [zV,guardV,Nat.reduceEqDiff,reduceIte];done)
    simp only [zW,set_some,Nat.reduceEqDiff,reduceIte]
  | skip
    refine v_op ?_;intro K k;simp only [zE,zL,zN,aStepM,optable,set_some,Nat.reduceEqDiff,reduceIte,Nat.reduceLT,implies_true,forall_const,reduceCtorEq,V.ofValue,V.ofScalar,V.un,V.gd,guardV,V.wrap,aExec,aop,List.length_map,aLen,lenOK,row_mk,Blk.row,List.size_toArray,List.getD_eq_getElem?_getD,Array.getD_eq_getD_getElem?,Option.getD_some,Nat.reduceAdd,Nat.reduceLeDiff,Nat.reduceMul,contentL,Value.oneCell',List.all_cons,List.all_nil,Bool.and_self,‹Tys _›.h,‹Fc _›.h];repeat (refine andA ?_)
    refine k _ ?_;clear k K
  exact b.h):A:=e b
theorem zLoad {A B:Prop} (b:Ho B) (e:Ho B→A:=by
  intro b;refine v_op ?_;intro K k;simp only [zE,zL,zO,zN,aStepM,optable,set_some,Nat.reduceEqDiff,reduceIte,Nat.reduceLT,implies_true,forall_const,reduceCtorEq,V.ofValue,V.ofScalar,V.un,V.gd,aExec,aop,aLoad,row_mk,Blk.row,PartOK,Go.Vm.part,V.cells,V.noSl,V.noRef,Nat.reduceAdd,Nat.reduceLeDiff,Nat.reduceMul,contentL,Value.oneCell',List.all_cons,List.all_nil,‹Tys _›.h,‹Fc _›.h];repeat (refine andA ?_)
  refine k _ ?_;clear k K;exact b.h):A:=e b
theorem zgLoad {A B:Prop} (b:Ho B) (e:Ho B→A:=by
  intro b;first
  | refine v_passB rfl rfl rfl ?_ ?_
    · first | rfl | (simp only [zV,guardV,Nat.reduceEqDiff,reduceIte];done)
    simp only [zW,set_some,Nat.reduceEqDiff,reduceIte]
  | skip
    refine v_op ?_;intro K k;simp only [zE,zL,zO,zN,aStepM,optable,set_some,Nat.reduceEqDiff,reduceIte,Nat.reduceLT,implies_true,forall_const,reduceCtorEq,V.ofValue,V.ofScalar,V.un,V.gd,guardV,V.wrap,aExec,aop,aLoad,row_mk,Blk.row,PartOK,Go.Vm.part,V.cells,V.noSl,V.noRef,Nat.reduceAdd,Nat.reduceLeDiff,Nat.reduceMul,contentL,Value.oneCell',List.all_cons,List.all_nil,‹Tys _›.h,‹Fc _›.h];repeat (refine andA ?_)
    refine k _ ?_;clear k K
  exact b.h):A:=e b
theorem zMakeFunc {A B:Prop} (b:Ho B) (e:Ho B→A:=by
  intro b;refine v_op ?_;intro K k;simp only [zE,zL,aStepM,optable,set_some,Nat.reduceEqDiff,reduceIte,Nat.reduceLT,implies_true,forall_const,reduceCtorEq,V.ofValue,V.ofScalar,V.un,V.gd,aExec,aop,contentL,Value.oneCell',List.all_cons,List.all_nil,Bool.and_self,‹Tys _›.h,‹Fc _›.h];repeat (refine andA ?_)
  refine k _ ?_;clear k K;exact b.h):A:=e b
theorem zMax {A B:Prop} (b:Ho B) (e:Ho B→A:=by
  intro b;refine v_op ?_;intro K k;simp only [zE,aStepM,optable,set_some,Nat.reduceEqDiff,reduceIte,Nat.reduceLT,implies_true,forall_const,reduceCtorEq,V.ofValue,V.ofScalar,V.un,V.gd,aExec,aop,aMinMax,List.mem_cons,List.not_mem_nil,or_false,forall_eq_or_imp,forall_eq,List.map_cons,List.map_nil,if_true,if_false,contentL,Value.oneCell',List.all_cons,List.all_nil,Bool.and_self,‹Tys _›.h,‹Fc _›.h];repeat (refine andA ?_)
  refine k _ ?_;clear k K;exact b.h):A:=e b
theorem zMove {A B:Prop} (b:Ho B) (e:Ho B→A:=by
  intro b;refine v_op ?_;intro K k;simp only [zE,aStepM,optable,set_some,Nat.reduceEqDiff,reduceIte,Nat.reduceLT,implies_true,forall_const,reduceCtorEq,V.ofValue,V.ofScalar,V.un,V.gd,aExec,aop,contentL,Value.oneCell',List.all_cons,List.all_nil,Bool.and_self,‹Tys _›.h,‹Fc _›.h];repeat (refine andA ?_)
  refine k _ ?_;clear k K;exact b.h):A:=e b
theorem zgMove {A B:Prop} (b:Ho B) (e:Ho B→A:=by
  intro b;first
  | refine v_passB rfl rfl rfl ?_ ?_
    · first | rfl | (simp only [zV,guardV,Nat.reduceEqDiff,reduceIte];done)
    simp only [zW,set_some,Nat.reduceEqDiff,reduceIte]
  | skip
    refine v_op ?_;intro K k;simp only [zE,zG,aStepM,optable,set_some,Nat.reduceEqDiff,reduceIte,Nat.reduceLT,implies_true,forall_const,reduceCtorEq,V.ofValue,V.ofScalar,V.un,V.gd,guardV,V.wrap,aExec,aop,contentL,Value.oneCell',List.all_cons,List.all_nil,Bool.and_self,‹Tys _›.h,‹Fc _›.h];repeat (refine andA ?_)
    refine k _ ?_;clear k K
  exact b.h):A:=e b
theorem zNilCheck {A B:Prop} (b:Ho B) (e:Ho B→A:=by
  intro b;refine v_op ?_;intro K k;simp only [zE,aStepM,optable,set_some,Nat.reduceEqDiff,reduceIte,Nat.reduceLT,implies_true,forall_const,reduceCtorEq,V.ofValue,V.ofScalar,V.un,V.gd,aExec,aop,contentL,Value.oneCell',List.all_cons,List.all_nil,Bool.and_self,‹Tys _›.h,‹Fc _›.h];repeat (refine andA ?_)
  refine k _ ?_;clear k K;exact b.h):A:=e b
theorem zPick {A B:Prop} (b:Ho B) (e:Ho B→A:=by
  intro b;refine v_op ?_;intro K k;simp only [zE,zP,aStepM,optable,set_some,Nat.reduceEqDiff,reduceIte,Nat.reduceLT,implies_true,forall_const,reduceCtorEq,V.ofValue,V.ofScalar,V.un,V.gd,aExec,aop,pickV,contentL,Value.oneCell',List.all_cons,List.all_nil,Bool.and_self,‹Tys _›.h,‹Fc _›.h];repeat (refine andA ?_)
  refine k _ ?_;clear k K;exact b.h):A:=e b
theorem zgPick {A B:Prop} (b:Ho B) (e:Ho B→A:=by
  intro b;first
  | refine v_passB rfl rfl rfl ?_ ?_
    · first | rfl | (simp only [zV,guardV,Nat.reduceEqDiff,reduceIte];done)
    simp only [zW,set_some,Nat.reduceEqDiff,reduceIte]
  | skip
    refine v_op ?_;intro K k;simp only [zE,zP,zG,aStepM,optable,set_some,Nat.reduceEqDiff,reduceIte,Nat.reduceLT,implies_true,forall_const,reduceCtorEq,V.ofValue,V.ofScalar,V.un,V.gd,guardV,V.wrap,aExec,aop,pickV,contentL,Value.oneCell',List.all_cons,List.all_nil,Bool.and_self,‹Tys _›.h,‹Fc _›.h];repeat (refine andA ?_)
    refine k _ ?_;clear k K
  exact b.h):A:=e b
theorem zSlice {A B:Prop} (b:Ho B) (e:Ho B→A:=by
  intro b;refine v_op ?_;intro K k;simp only [zE,zL,zN,aStepM,optable,set_some,Nat.reduceEqDiff,reduceIte,Nat.reduceLT,implies_true,forall_const,reduceCtorEq,V.ofValue,V.ofScalar,V.un,V.gd,aExec,aop,List.set_cons_zero,List.set_cons_succ,aSlice,forall_eq',bound,ElemsOK,Option.map_none,Option.isNone_none,row_mk,Blk.row,TypeDesc.slice.injEq,List.forall_mem_map,List.length_map,Go.Vm.V.cells,Int.toNat_natCast,Int.reduceToNat,←List.map_take,←List.map_drop,List.take_length,Nat.reduceAdd,Nat.reduceLeDiff,Nat.reduceMul,contentL,Value.oneCell',List.all_cons,List.all_nil,Bool.and_self,‹Tys _›.h,‹Fc _›.h];repeat (refine andA ?_)
  refine k _ ?_;clear k K;exact b.h):A:=e b
theorem zStore {A B:Prop} (b:Ho B) (e:Ho B→A:=by
  intro b;refine v_op ?_;intro K k;simp only [zE,zS,zJ,zL,zO,zN,aStepM,optable,set_some,Nat.reduceEqDiff,reduceIte,Nat.reduceLT,implies_true,forall_const,reduceCtorEq,V.ofValue,V.ofScalar,V.un,V.gd,aExec,aop,aStore,setCells,V.isVal,V.cells,kindOf,kindAll,V.noSl,V.noRef,gt_iff_lt,Nat.reduceAdd,Nat.reduceLeDiff,Nat.reduceMul,takeV,takeCell,takeCells,row_mk,Blk.row,killAll,Nat.reduceBEq,join_t,contentL,Value.oneCell',‹Tys _›.h,‹Fc _›.h];repeat (refine andA ?_)
  refine k _ ?_;clear k K;exact b.h):A:=e b
theorem zUnOp {A B:Prop} (b:Ho B) (e:Ho B→A:=by
  intro b;refine v_op ?_;intro K k;simp only [zE,aStepM,optable,set_some,Nat.reduceEqDiff,reduceIte,Nat.reduceLT,implies_true,forall_const,reduceCtorEq,V.ofValue,V.ofScalar,V.un,V.gd,aExec,aop,aUn,contentL,Value.oneCell',List.all_cons,List.all_nil,Bool.and_self,‹Tys _›.h,‹Fc _›.h];repeat (refine andA ?_)
  refine k _ ?_;clear k K;exact b.h):A:=e b
theorem zgUnOp {A B:Prop} (b:Ho B) (e:Ho B→A:=by
  intro b;first
  | refine v_passB rfl rfl rfl ?_ ?_
    · first | rfl | (simp only [zV,guardV,Nat.reduceEqDiff,reduceIte];done)
    simp only [zW,set_some,Nat.reduceEqDiff,reduceIte]
  | skip
    refine v_op ?_;intro K k;simp only [zE,zG,aStepM,optable,set_some,Nat.reduceEqDiff,reduceIte,Nat.reduceLT,implies_true,forall_const,reduceCtorEq,V.ofValue,V.ofScalar,V.un,V.gd,guardV,V.wrap,aExec,aop,aUn,contentL,Value.oneCell',List.all_cons,List.all_nil,Bool.and_self,‹Tys _›.h,‹Fc _›.h];repeat (refine andA ?_)
    refine k _ ?_;clear k K
  exact b.h):A:=e b
theorem zNil {A B:Prop} (b:Ho B) (e:Ho B→A:=by
  intro b;refine v_op ?_;intro K k;simp only [zE,aStepM,optable,set_some,Nat.reduceEqDiff,reduceIte,Nat.reduceLT,implies_true,forall_const,reduceCtorEq,V.ofValue,V.ofScalar,V.un,V.gd,aExec,aop,aBin,isNil,or_true,true_or,or_false,false_or,EK.fitsL,EK.fits,cellsEq,cellEq,aNil,TypeDesc.slice.injEq,nil_eql,nil_neq,contentL,Value.oneCell',List.all_cons,List.all_nil,Bool.and_self,‹Tys _›.h,‹Fc _›.h];repeat (refine andA ?_)
  intro nb hnb;refine k _ ?_;clear k K;revert nb hnb;exact b.h):A:=e b
theorem zk {A B:Prop} (b:Ho B) (e:Ho B→A:=by
  intro b;simp only [keep_mk,keepE_nil,keepE_cons,look_cons,look_nil,Nat.reduceEqDiff,reduceIte];exact b.h):A:=e b
theorem zCl {A B:Prop} (b:Ho B) (e:Ho B→A:=by
  intro b;simp only [zE,zL,zO,zN,aStepM,optable,set_some,Nat.reduceEqDiff,reduceIte,Nat.reduceLT,implies_true,forall_const,reduceCtorEq,V.ofValue,V.ofScalar,V.un,V.gd,aLoad,row_mk,Blk.row,PartOK,Go.Vm.part,V.cells,V.noSl,V.noRef,Nat.reduceAdd,Nat.reduceLeDiff,Nat.reduceMul,‹Tys _›.h];exact b.h):A:=e b
theorem zf {A B:Prop} (b:Ho B) (e:Ho B→A:=by
  intro b;simp only [resK,pickRV,get_mk,look_cons,look_nil,Nat.reduceEqDiff,reduceIte,List.map_cons,List.map_nil];exact b.h):A:=e b
theorem v_condS {P:Program} {L:Lend} {m:Nat} {Q:AEx→St→Prop} {s:St} {c:Operand} {x y:Code} (b:Bool) (hc:s.ev c=.bool b) {p q:Prop} (h1:p→awp P L m x Q s) (h2:q→awp P L m y Q s)
    (hp:b=true→p:=by first | (intro h;simp only [zC,reduceCtorEq] at h;exact h) | exact fun h=>h) (hq:b=false→q:=by first | (intro h;simp only [zC,reduceCtorEq] at h;exact h) | exact fun h=>h):awp P L m (.cond c x y) Q s:=
  v_cond b hc (fun h=>h1 (hp h)) (fun h=>h2 (hq h))
theorem weak_bothS {m:Nat} {s s':St} {B:Prop} (ks ids:List Nat) (b:Ho B) (hn:ids.Nodup:=by decide) (hm:∀j,j < m→ids[j]? =some j:=by simp)
    (he:∀p∈(s.keep ks).env,p.2.only (fun id=>(idx ids id).isSome)=true:=by simp [keep_mk,keepE_nil,keepE_cons,look_cons,V.only,V.onlyL,idx]<;>(first | rfl | decide))
    (hb:∀id∈ids,∀bk,s.O[id]? =some bk→bk.kindIs (fun k=>k.nm)=true:=by simp [Blk.kindIs,fillK_mix,thK_mix])
    (e:Ho B→(s.keep ks).comp ids=s':=by
      intro b;simp only [keep_mk,keepE_nil,keepE_cons,look_cons,look_nil,Nat.reduceEqDiff,reduceIte,St.comp,List.map_cons,List.map_nil,V.ren,V.renL,idx,List.getD_cons_zero,List.getD_cons_succ,Nat.reduceBEq,cond_true,cond_false,Option.map_some,Option.getD_some,Nat.reduceAdd,beq_dec,decide_true,decide_false];exact b.h):Weak m s s':=weak_both ks ids hn hm he hb (e b)
theorem weak_bothC {m:Nat} {s s':St} {B:Prop} (ks ids:List Nat) (b:Ho B) (hn:ids.Nodup:=by decide) (hm:∀j,j < m→ids[j]? =some j:=by simp)
    (he:∀p∈(s.keep ks).env,p.2.only (fun id=>(idx ids id).isSome)=true:=by simp [keep_mk,keepE_nil,keepE_cons,look_cons,V.only,V.onlyL,idx,‹Caps _›.cn]<;>(first | rfl | decide))
    (hb:∀id∈ids,∀bk,s.O[id]? =some bk→bk.kindIs (fun k=>k.nm)=true:=by simp [Blk.kindIs,fillK_mix,thK_mix])
    (e:Ho B→(s.keep ks).comp ids=s':=by
      intro b;simp only [keep_mk,keepE_nil,keepE_cons,look_cons,look_nil,Nat.reduceEqDiff,reduceIte,St.comp,List.map_cons,List.map_nil,V.ren,V.renL,idx,List.getD_cons_zero,List.getD_cons_succ,Nat.reduceBEq,cond_true,cond_false,Option.map_some,Option.getD_some,Nat.reduceAdd,beq_dec,decide_true,decide_false,‹Caps _›.cr];exact b.h):Weak m s s':=weak_both ks ids hn hm he hb (e b)
theorem weak_same {m:Nat} {s s':St} (ks ids:List Nat) (hn:ids.Nodup:=by decide) (hm:∀j,j < m→ids[j]? =some j:=by simp)
    (he:∀p∈(s.keep ks).env,p.2.only (fun id=>(idx ids id).isSome)=true:=by simp [keep_mk,keepE_nil,keepE_cons,look_cons,V.only,V.onlyL,idx]<;>(first | rfl | decide))
    (hb:∀id∈ids,∀bk,s.O[id]? =some bk→bk.onlyM (fun id=>(idx ids id).isSome)=true:=by simp [Blk.onlyM,isMix_flat,isMix_deep,isMix_shal,isMix_thin,isMix_mix,isMix_part,isMix_fillK,isMix_thK,V.only,V.onlyL,idx]<;>(first | rfl | decide))
    (e:(s.keep ks).compM ids=s':=by first | (simp only [keep_mk,keepE_nil,keepE_cons,look_cons,look_nil,Nat.reduceEqDiff,reduceIte,St.compM,Blk.renM,isMix_flat,isMix_deep,isMix_shal,isMix_thin,isMix_mix,isMix_part,isMix_fillK,isMix_thK,List.map_cons,List.map_nil,V.ren,V.renL,idx,List.getD_cons_zero,List.getD_cons_succ,Nat.reduceBEq,cond_true,cond_false,Option.map_some,Option.getD_some,Nat.reduceAdd,beq_dec,decide_true,decide_false];done) | rfl):Weak m s s':=weak_bothM ks ids hn hm he hb e
theorem zc {C A B:Prop} (con:C) (b:Ho B) (e:C→Ho B→A:=by
  intro con b;refine v_op ?_;intro K k;simp only [zE,zM,aStepM,optable,set_some,Nat.reduceEqDiff,reduceIte,Nat.reduceLT,implies_true,forall_const,reduceCtorEq,V.ofValue,V.ofScalar,V.un,V.gd,aExec,lentIds,lendOf,‹Tys _›.h,‹Fc _›.h];repeat (refine andC ?_)
  refine aCall_new con (by first | rfl | (simp only [toArgs,toArg,toCell,toCells,toRows,Option.map_some,idx,row_mk,List.getElem?_cons_zero,List.getElem?_cons_succ,Option.bind_some,Blk.row,fillK_mix,thK_mix,flat_mix,deep_mix,thin_mix,shal_mix,cond_true,List.map_take];done) | (simp [toArgs,toArg,toCell,toCells,toRows,idx,row_mk,Blk.row,fillK_mix,thK_mix,flat_mix,deep_mix,thin_mix,shal_mix,Nat.beq_refl];done)) (by first | exact .inl ⟨rfl,by simp [Blk.kindIs,fillK_fd,thK_fd]⟩ | exact .inr (by simp [V.cold])) ?_;refine k _ ?_;clear k K;simp only [zY,zW,set_some,Nat.reduceEqDiff,reduceIte,V.ren,V.renL,rho,Nat.reduceAdd];exact b.h):A:=e con b
theorem zcc {C A B:Prop} (con:C) (b:Ho B) (e:C→Ho B→A:=by
  intro con b;refine v_op ?_;intro K k;simp only [zE,zM,aStepM,optable,set_some,Nat.reduceEqDiff,reduceIte,Nat.reduceLT,implies_true,forall_const,reduceCtorEq,V.ofValue,V.ofScalar,V.un,V.gd,aExec,lentIds,lendOf,‹Tys _›.h,‹Fc _›.h];repeat (refine andC ?_)
  refine aCall_new con (by first | rfl | (simp only [toArgs,toArg,toCell,toCells,toRows,Option.map_some,idx,row_mk,List.getElem?_cons_zero,List.getElem?_cons_succ,Option.bind_some,Blk.row,fillK_mix,thK_mix,flat_mix,deep_mix,thin_mix,shal_mix,cond_true,List.map_take,‹Caps _›.cc,‹Caps _›.ca];done) | (simp [toArgs,toArg,toCell,toCells,toRows,idx,row_mk,Blk.row,fillK_mix,thK_mix,flat_mix,deep_mix,thin_mix,shal_mix,Nat.beq_refl,‹Caps _›.cc,‹Caps _›.ca];done)) (by first | exact .inl ⟨rfl,by simp [Blk.kindIs,fillK_fd,thK_fd]⟩ | exact .inr (by simp [V.cold])) ?_;refine k _ ?_;clear k K;simp only [zY,zW,set_some,Nat.reduceEqDiff,reduceIte,V.ren,V.renL,rho,Nat.reduceAdd];exact b.h):A:=e con b
theorem aCall_newXB {P:Program} {s:St} {f:FuncId} {args args':List V} {R:V→List Blk→Prop} {g:V→St→St} {K X:St→Prop} (k:∀s,X s→K s) (hc:ConX P f args' [] R)
    (h:∀r O',R r O'→((r.clean=true∧∀b∈O',b.kindIs (fun k=>k != .shal && k.nm)=true)∨(∀x∈args,x.coldIn []=true))∧X (g (r.ren (rho [] s.O.length)) {s with O:=s.O++O'})) (ht:toArgs s [] args=some args':=by first | rfl | (simp only [toArgs,toArg,toCell,toCells,toRows,Option.map_some,idx,row_mk,List.getElem?_cons_zero,List.getElem?_cons_succ,Option.bind_some,Blk.row,fillK_mix,thK_mix,flat_mix,deep_mix,thin_mix,shal_mix,cond_true,List.map_take];done) | (simp [toArgs,toArg,toCell,toCells,toRows,idx,row_mk,Blk.row,fillK_mix,thK_mix,flat_mix,deep_mix,thin_mix,shal_mix,Nat.beq_refl];done) | (simp only [toArgs,toArg,toCell,toCells,toRows,Option.map_some,idx,row_mk,List.getElem?_cons_zero,List.getElem?_cons_succ,Option.bind_some,Blk.row,fillK_mix,thK_mix,flat_mix,deep_mix,thin_mix,shal_mix,cond_true,cond_false,Option.map_none,Nat.reduceAdd,List.map_take,Nat.beq_refl,‹Fc _›.h];done)):aCall P s f [] args (fun v s'=>K (g v s')):=
  aCall_newX hc ht fun r O' q=>⟨(h r O' q).1,k _ (h r O' q).2⟩
theorem aCall_lentXB {P:Program} {s:St} {f:FuncId} {args args':List V} {R:V→List Blk→Prop} {g:V→St→St} {K X:St→Prop} (k:∀s,X s→K s) {bk:Blk} {id:Nat} (hc:ConX P f args' [bk] R)
    (h:∀r O',R r O'→∃bk' O1,O'=bk'::O1∧((r.clean=true∧∀b∈O',b.kindIs (fun k=>k != .shal && k.nm)=true)∨(∀x∈args,x.coldIn [id]=true))∧X (g (r.ren (rho [id] s.O.length)) {s with O:=s.O.set id bk'++O1})) (ht:toArgs s [id] args=some args':=by first | rfl | (simp only [toArgs,toArg,toCell,toCells,toRows,Option.map_some,idx,row_mk,List.getElem?_cons_zero,List.getElem?_cons_succ,Option.bind_some,Blk.row,fillK_mix,thK_mix,flat_mix,deep_mix,thin_mix,shal_mix,cond_true,List.map_take];done) | (simp [toArgs,toArg,toCell,toCells,toRows,idx,row_mk,Blk.row,fillK_mix,thK_mix,flat_mix,deep_mix,thin_mix,shal_mix,Nat.beq_refl];done) | (simp only [toArgs,toArg,toCell,toCells,toRows,Option.map_some,idx,row_mk,List.getElem?_cons_zero,List.getElem?_cons_succ,Option.bind_some,Blk.row,fillK_mix,thK_mix,flat_mix,deep_mix,thin_mix,shal_mix,cond_true,cond_false,Option.map_none,Nat.reduceAdd,List.map_take,Nat.beq_refl,‹Fc _›.h];done)) (hO:s.O[id]? =some bk:=by first | rfl | assumption) (hbk:bk.kindIs (fun k=>k.nm)=true∧bk≠.dead:=by exact ⟨by simp [Blk.kindIs,fillK_mix,thK_mix],by simp⟩)
    (hv:s.vw=false∨bk.kindIs (fun k=>k == .flat)=true:=by first | exact .inl rfl | exact .inr (by simp [Blk.kindIs])):aCall P s f [id] args (fun v s'=>K (g v s')):=
  aCall_lentX id hc ht hO hbk hv fun r O' q=>(h r O' q).imp fun _ h=>h.imp fun _ h=>⟨h.1,h.2.1,k _ h.2.2⟩
theorem aCall_lent2XB {P:Program} {s:St} {f:FuncId} {args args':List V} {R:V→List Blk→Prop} {g:V→St→St} {K X:St→Prop} (k:∀s,X s→K s) {bk bk2:Blk} {i j:Nat} (hc:ConX P f args' [bk,bk2] R)
    (h:∀r O',R r O'→∃b1 b2 O1,O'=b1::b2::O1∧((r.clean=true∧∀b∈O',b.kindIs (fun k=>k != .shal && k.nm)=true)∨(∀x∈args,x.coldIn [i,j]=true))∧X (g (r.ren (rho [i,j] s.O.length)) {s with O:=(s.O.set i b1).set j b2++O1})) (ht:toArgs s [i,j] args=some args':=by first | rfl | (simp only [toArgs,toArg,toCell,toCells,toRows,Option.map_some,idx,row_mk,List.getElem?_cons_zero,List.getElem?_cons_succ,Option.bind_some,Blk.row,fillK_mix,thK_mix,flat_mix,deep_mix,thin_mix,shal_mix,cond_true,List.map_take];done) | (simp [toArgs,toArg,toCell,toCells,toRows,idx,row_mk,Blk.row,fillK_mix,thK_mix,flat_mix,deep_mix,thin_mix,shal_mix,Nat.beq_refl];done) | (simp only [toArgs,toArg,toCell,toCells,toRows,Option.map_some,idx,row_mk,List.getElem?_cons_zero,List.getElem?_cons_succ,Option.bind_some,Blk.row,fillK_mix,thK_mix,flat_mix,deep_mix,thin_mix,shal_mix,cond_true,cond_false,Option.map_none,Nat.reduceAdd,List.map_take,Nat.beq_refl,‹Fc _›.h];done)) (hO:s.O[i]? =some bk:=by first | rfl | assumption) (hO2:s.O[j]? =some bk2:=by first | rfl | assumption) (hn:i≠j:=by first | decide | assumption | exact Ne.symm (by assumption)) (hbk:(bk.kindIs (fun k=>k.nm)=true∧bk≠.dead)∧(bk2.kindIs (fun k=>k.nm)=true∧bk2≠.dead):=by exact ⟨⟨by simp [Blk.kindIs,fillK_mix,thK_mix],by simp⟩,⟨by simp [Blk.kindIs,fillK_mix,thK_mix],by simp⟩⟩)
    (hv:s.vw=false:=by rfl):aCall P s f [i,j] args (fun v s'=>K (g v s')):=
  aCall_lent2X i j hc ht hO hO2 hn hbk hv fun r O' q=>(h r O' q).imp fun _ h=>h.imp fun _ h=>h.imp fun _ h=>⟨h.1,h.2.1,k _ h.2.2⟩
theorem zxn {C A B:Prop} (con:C) (b:Ho B) (e:C→Ho B→A:=by
  intro con b;refine v_op ?_;intro K k;simp only [zE,zM,aStepM,optable,set_some,Nat.reduceEqDiff,reduceIte,Nat.reduceLT,implies_true,forall_const,reduceCtorEq,V.ofValue,V.ofScalar,V.un,V.gd,aExec,lentIds,lendOf,‹Tys _›.h,‹Fc _›.h];repeat (refine andC ?_)
  exact aCall_newXB k con b.h):A:=e con b
theorem zxl {C A B:Prop} (con:C) (b:Ho B) (e:C→Ho B→A:=by
  intro con b;refine v_op ?_;intro K k;simp only [zE,zM,aStepM,optable,set_some,Nat.reduceEqDiff,reduceIte,Nat.reduceLT,implies_true,forall_const,reduceCtorEq,V.ofValue,V.ofScalar,V.un,V.gd,aExec,lentIds,lendOf,‹Tys _›.h,‹Fc _›.h];repeat (refine andC ?_)
  exact aCall_lentXB k con b.h):A:=e con b
theorem zxt {C A B:Prop} (con:C) (b:Ho B) (e:C→Ho B→A:=by
  intro con b;refine v_op ?_;intro K k;simp only [zE,zM,aStepM,optable,set_some,Nat.reduceEqDiff,reduceIte,Nat.reduceLT,implies_true,forall_const,reduceCtorEq,V.ofValue,V.ofScalar,V.un,V.gd,aExec,lentIds,lendOf,‹Tys _›.h,‹Fc _›.h];repeat (refine andC ?_)
  exact aCall_lent2XB k con b.h):A:=e con b
theorem zoxt {P:Program} {L:Lend} {rg:Array Oper} {K:St→Prop} {fuel:Nat} {listed:Array Bool} {s:St} {oi:Oper} {rest:List Oper} {B:Prop} {C:Prop} (i:Nat) (con:C) (b:Ho B) (hi:rg.toList.drop i=oi::rest:=by rfl) (hr:Region.ready .any rg listed=[i]:=by kernel_rfl)
    (e:C→Ho B→(∀K':St→Prop,(∀s,aAny P L rg K fuel (listed.setIfInBounds i true) s→K' s)→aStepM P L rg oi s K'):=by
  intro con b;intro K k;simp only [zE,zM,aStepM,optable,set_some,Nat.reduceEqDiff,reduceIte,Nat.reduceLT,implies_true,forall_const,reduceCtorEq,V.ofValue,V.ofScalar,V.un,V.gd,aExec,lentIds,lendOf,‹Tys _›.h,‹Fc _›.h];repeat (refine andC ?_)
  exact aCall_lent2XB k con b.h):aAny P L rg K (fuel+1) listed s:=aAny_only i hi hr (e con b)
theorem zEn {A B:Prop} (b:Ho B) (e:Ho B→A:=by
  intro b;refine ⟨by first | exact .inr (ql3.1 rfl) | (refine .inl ⟨rfl,?_⟩;simp [Blk.kindIs,fillK_fd,thK_fd];done) | (refine .inr ?_;simp [V.coldIn,V.cold,idx];done) | (refine .inr ?_;simp [V.coldIn,V.cold,idx,Nat.beq_refl,‹Fc _›.h];done),?_⟩;simp only [zY,zW,set_some,Nat.reduceEqDiff,reduceIte,rho_one,rho_s,rho2_s,rho2_0,rho2_1,V.ren,V.renL,List.set_cons_zero,List.set_cons_succ,rho,Nat.reduceAdd,Nat.add_zero,Nat.lt_irrefl,Nat.reduceLT,Nat.reduceSub,Nat.sub_self];exact b.h):A:=e b
theorem zEl {A B:Prop} (b:Ho B) (e:Ho B→A:=by
  intro b;refine ⟨_,_,rfl,by first | exact .inr (ql3.1 rfl) | (refine .inl ⟨rfl,?_⟩;simp [Blk.kindIs,fillK_fd,thK_fd];done) | (refine .inr ?_;simp [V.coldIn,V.cold,idx];done) | (refine .inr ?_;simp [V.coldIn,V.cold,idx,Nat.beq_refl,‹Fc _›.h];done),?_⟩;simp only [zY,zW,set_some,Nat.reduceEqDiff,reduceIte,rho_one,rho_s,rho2_s,rho2_0,rho2_1,V.ren,V.renL,List.set_cons_zero,List.set_cons_succ,rho,Nat.reduceAdd,Nat.add_zero,Nat.lt_irrefl,Nat.reduceLT,Nat.reduceSub,Nat.sub_self];exact b.h):A:=e b
theorem zEt {A B:Prop} (b:Ho B) (e:Ho B→A:=by
  intro b;refine ⟨_,_,_,rfl,by first | exact .inr (ql3.1 rfl) | (refine .inl ⟨rfl,?_⟩;simp [Blk.kindIs,fillK_fd,thK_fd];done) | (refine .inr ?_;simp [V.coldIn,V.cold,idx];done) | (refine .inr ?_;simp [V.coldIn,V.cold,idx,Nat.beq_refl,‹Fc _›.h];done),?_⟩;simp only [zY,zW,set_some,Nat.reduceEqDiff,reduceIte,rho_one,rho_s,rho2_s,rho2_0,rho2_1,V.ren,V.renL,List.set_cons_zero,List.set_cons_succ,rho,Nat.reduceAdd,Nat.add_zero,Nat.lt_irrefl,Nat.reduceLT,Nat.reduceSub,Nat.sub_self];exact b.h):A:=e b
theorem zgc {C A B:Prop} (con:C) (b:Ho B) (e:C→Ho B→A:=by
  intro con b;first
  | refine v_passB rfl rfl rfl ?_ ?_
    · first | rfl | (simp only [zV,guardV,Nat.reduceEqDiff,reduceIte];done)
    simp only [zW,set_some,Nat.reduceEqDiff,reduceIte]
  | skip
    refine v_op ?_;intro K k;simp only [zE,zG,aStepM,optable,set_some,Nat.reduceEqDiff,reduceIte,Nat.reduceLT,implies_true,forall_const,reduceCtorEq,V.ofValue,V.ofScalar,V.un,V.gd,guardV,‹Tys _›.h,‹Fc _›.h];simp only [zM,zW,aExec,lentIds,lendOf,set_some,Nat.reduceEqDiff,reduceIte,V.ofValue,V.ofScalar,V.un,V.gd,and_true,true_and,implies_true,and_self,decide_eq_true_eq];first | refine Exists.imp (fun r h=>h) (aCall_guardT con (by first | rfl | (simp only [toArgs,toArg,toCell,toCells,toRows,Option.map_some,idx,row_mk,List.getElem?_cons_zero,List.getElem?_cons_succ,Option.bind_some,Blk.row,fillK_mix,thK_mix,flat_mix,deep_mix,thin_mix,shal_mix,cond_true,List.map_take];done) | (simp [toArgs,toArg,toCell,toCells,toRows,idx,row_mk,Blk.row,fillK_mix,thK_mix,flat_mix,deep_mix,thin_mix,shal_mix,Nat.beq_refl];done)) rfl rfl ?_) | refine Exists.imp (fun r h=>h) (aCall_guard0 (fun hg=>con) (by first | rfl | (simp only [toArgs,toArg,toCell,toCells,toRows,Option.map_some,idx,row_mk,List.getElem?_cons_zero,List.getElem?_cons_succ,Option.bind_some,Blk.row,fillK_mix,thK_mix,flat_mix,deep_mix,thin_mix,shal_mix,cond_true,List.map_take];done) | (simp [toArgs,toArg,toCell,toCells,toRows,idx,row_mk,Blk.row,fillK_mix,thK_mix,flat_mix,deep_mix,thin_mix,shal_mix,Nat.beq_refl];done)) rfl rfl ?_) | refine Exists.imp (fun r h=>h) (aCall_guard (by first | (intros;trivial) | (intros;simp_all;done)) (fun hg=>con) (by first | rfl | (simp only [toArgs,toArg,toCell,toCells,toRows,Option.map_some,idx,row_mk,List.getElem?_cons_zero,List.getElem?_cons_succ,Option.bind_some,Blk.row,fillK_mix,thK_mix,flat_mix,deep_mix,thin_mix,shal_mix,cond_true,List.map_take];done) | (simp [toArgs,toArg,toCell,toCells,toRows,idx,row_mk,Blk.row,fillK_mix,thK_mix,flat_mix,deep_mix,thin_mix,shal_mix,Nat.beq_refl];done)) rfl rfl ?_)
    refine k _ ?_;clear k K
  exact b.h):A:=e con b
theorem zsBuildSlice {A B:Prop} (b:Ho B) (e:Ho B→A:=by
  intro b;intro K k;simp only [zE,zO,zN,aStepM,optable,set_some,Nat.reduceEqDiff,reduceIte,Nat.reduceLT,implies_true,forall_const,reduceCtorEq,V.ofValue,V.ofScalar,V.un,V.gd,aExec,aop,litElems,rng0,rng1,rng2,rng3,rng4,rng5,rng6,rng7,rng8,rng9,rng10,rng11,rng12,List.map_cons,List.map_nil,List.all_cons,List.all_nil,V.isVal,V.cells,content,contentL,kindAll,V.noRef,V.noSl,List.mem_cons,List.not_mem_nil,or_false,forall_eq_or_imp,forall_eq,if_true,Option.isSome_some,List.length_cons,List.length_nil,Nat.reduceAdd,Nat.reduceLeDiff,Nat.reduceMul,Value.oneCell',‹Tys _›.h,‹Fc _›.h];repeat (refine andA ?_)
  refine k _ ?_;clear k K;exact b.h):A:=e b
theorem zsAppend {A B:Prop} (b:Ho B) (e:Ho B→A:=by
  intro b;intro K k;simp only [zE,zL,zO,zN,aStepM,optable,set_some,Nat.reduceEqDiff,reduceIte,Nat.reduceLT,implies_true,forall_const,reduceCtorEq,V.ofValue,V.ofScalar,V.un,V.gd,aExec,aop,fillK_thin,beq_self_eq_true,List.nodup_cons,List.mem_singleton,forall_eq',List.size_toArray,List.getD_eq_getElem?_getD,Array.getD_eq_getD_getElem?,Option.getD_some,aAppend,destOf,srcOf,takeElems,takeV,takeCell,takeCells,row_mk,Blk.row,killAll,V.isSub,V.noSl,Value.cells,Option.toList,List.forall_mem_map,List.length_map,List.all_cons,List.all_nil,List.isEmpty_nil,List.isEmpty_cons,List.not_mem_nil,List.nodup_nil,join_ff,join_ft,join_fv,join_d,join_s,fillK_join0,fillK_join,List.mem_cons,or_false,forall_eq_or_imp,forall_eq,List.set_cons_zero,List.set_cons_succ,List.length_append,Go.Vm.V.cells,Nat.reduceAdd,Nat.reduceLeDiff,Nat.reduceMul,contentL,Value.oneCell',‹Tys _›.h,‹Fc _›.h];repeat (refine andA ?_)
  refine k _ ?_;clear k K;exact b.h):A:=e b
theorem zsSlice {A B:Prop} (b:Ho B) (e:Ho B→A:=by
  intro b;intro K k;simp only [zE,zL,zN,aStepM,optable,set_some,Nat.reduceEqDiff,reduceIte,Nat.reduceLT,implies_true,forall_const,reduceCtorEq,V.ofValue,V.ofScalar,V.un,V.gd,aExec,aop,List.set_cons_zero,List.set_cons_succ,aSlice,forall_eq',bound,ElemsOK,Option.map_none,Option.isNone_none,row_mk,Blk.row,TypeDesc.slice.injEq,List.forall_mem_map,List.length_map,Go.Vm.V.cells,Int.toNat_natCast,Int.reduceToNat,←List.map_take,←List.map_drop,List.take_length,Nat.reduceAdd,Nat.reduceLeDiff,Nat.reduceMul,contentL,Value.oneCell',List.all_cons,List.all_nil,Bool.and_self,‹Tys _›.h,‹Fc _›.h];repeat (refine andA ?_)
  refine k _ ?_;clear k K;exact b.h):A:=e b
theorem zsc {C A B:Prop} (con:C) (b:Ho B) (e:C→Ho B→A:=by
  intro con b K k;simp only [zE,zM,aStepM,optable,set_some,Nat.reduceEqDiff,reduceIte,Nat.reduceLT,implies_true,forall_const,reduceCtorEq,V.ofValue,V.ofScalar,V.un,V.gd,aExec,lentIds,lendOf,‹Tys _›.h,‹Fc _›.h];repeat (refine andC ?_)
  refine aCall_new con (by first | rfl | (simp only [toArgs,toArg,toCell,toCells,toRows,Option.map_some,idx,row_mk,List.getElem?_cons_zero,List.getElem?_cons_succ,Option.bind_some,Blk.row,fillK_mix,thK_mix,flat_mix,deep_mix,thin_mix,shal_mix,cond_true,List.map_take];done) | (simp [toArgs,toArg,toCell,toCells,toRows,idx,row_mk,Blk.row,fillK_mix,thK_mix,flat_mix,deep_mix,thin_mix,shal_mix,Nat.beq_refl];done)) (by first | exact .inl ⟨rfl,by simp [Blk.kindIs,fillK_fd,thK_fd]⟩ | exact .inr (by simp [V.cold])) ?_;refine k _ ?_;clear k K;simp only [zY,zW,set_some,Nat.reduceEqDiff,reduceIte,V.ren,V.renL,rho,Nat.reduceAdd];exact b.h):A:=e con b
theorem row_all {O:List Blk} {t:St} (h:Grow O t.O):∀i,(O[i]?).isSome=true→t.row i=(O[i]?).bind Blk.row:=by
  intro i hi;unfold St.row;cases hb:O[i]? with
  | none=>rw [hb] at hi;cases hi
  | some b=>rw [h i b hb]
theorem zdMove {P:Program} {L:Lend} {rg:Array Oper} {K:St→Prop} {fuel:Nat} {listed:Array Bool} {env:List (Nat×V)} {O:List Blk} {vw:Bool} {n m:Nat} {oi:Oper} {rest:List Oper} {v:V} (hK:∀s t,EqS s t→K s→K t) (kp:Bool) (i d:Nat)
    (b:aAny P L rg K fuel (listed.setIfInBounds i true) ⟨(d,v)::env,O,vw,n,m⟩) (hi:rg.toList.drop i=oi::rest:=by rfl) (hd:oi.dst=some d:=by rfl) (hf:Region.freeG L kp rg listed i=true:=by kernel_rfl) (hr:(Region.ready .any rg listed).contains i=true:=by kernel_rfl)
    (hp:PureH P L rg kp oi d v ⟨env,O,vw,n,m⟩:=by
      intro t hn gx ho K' k';dsimp only at hn;refine .inl ?_;simp (disch:=first | decide | rfl) only [gx,zE,aStepM,optable,Nat.reduceEqDiff,reduceIte,Nat.reduceLT,implies_true,forall_const,reduceCtorEq,V.ofValue,V.ofScalar,V.un,V.gd,aExec,aop,contentL,Value.oneCell',List.all_cons,List.all_nil,Bool.and_self,‹Tys _›.h,‹Fc _›.h];repeat (refine andA ?_)
      exact k'):aAny P L rg K (fuel+1) listed ⟨env,O,vw,n,m⟩:=aAny_take hK kp i d hi hd hf hr ⟨v,hp,b⟩
theorem zdgMove {P:Program} {L:Lend} {rg:Array Oper} {K:St→Prop} {fuel:Nat} {listed:Array Bool} {env:List (Nat×V)} {O:List Blk} {vw:Bool} {n m:Nat} {oi:Oper} {rest:List Oper} {v:V} (hK:∀s t,EqS s t→K s→K t) (kp:Bool) (i d:Nat)
    (b:aAny P L rg K fuel (listed.setIfInBounds i true) ⟨(d,v)::env,O,vw,n,m⟩) (hi:rg.toList.drop i=oi::rest:=by rfl) (hd:oi.dst=some d:=by rfl) (hf:Region.freeG L kp rg listed i=true:=by kernel_rfl) (hr:(Region.ready .any rg listed).contains i=true:=by kernel_rfl)
    (hp : PureH P L rg kp oi d v ⟨env,O,vw,n,m⟩:=by
      intro t hn gx ho K' k';dsimp only at hn;first
      | refine .inr (.inl ⟨?_,_,_,false,rfl,?_,nofun,fun _=>⟨.any,k'⟩⟩)
        · simp only [hn,dst_some,Nat.reduceLT]
        · first | rfl | (simp (disch:=decide) only [gx,zV,guardV,Nat.reduceEqDiff,reduceIte];done)
      | skip
        refine .inl ?_;simp (disch:=first | decide | rfl) only [gx,zE,zG,aStepM,optable,Nat.reduceEqDiff,reduceIte,Nat.reduceLT,implies_true,forall_const,reduceCtorEq,V.ofValue,V.ofScalar,V.un,V.gd,guardV,V.wrap,aExec,aop,contentL,Value.oneCell',List.all_cons,List.all_nil,Bool.and_self,‹Tys _›.h,‹Fc _›.h];repeat (refine andA ?_)
        exact k'):aAny P L rg K (fuel+1) listed ⟨env,O,vw,n,m⟩:=aAny_take hK kp i d hi hd hf hr ⟨v,hp,b⟩
theorem zdPick {P:Program} {L:Lend} {rg:Array Oper} {K:St→Prop} {fuel:Nat} {listed:Array Bool} {env:List (Nat×V)} {O:List Blk} {vw:Bool} {n m:Nat} {oi:Oper} {rest:List Oper} {v:V} (hK:∀s t,EqS s t→K s→K t) (kp:Bool) (i d:Nat)
    (b:aAny P L rg K fuel (listed.setIfInBounds i true) ⟨(d,v)::env,O,vw,n,m⟩) (hi:rg.toList.drop i=oi::rest:=by rfl) (hd:oi.dst=some d:=by rfl) (hf:Region.freeG L kp rg listed i=true:=by kernel_rfl) (hr:(Region.ready .any rg listed).contains i=true:=by kernel_rfl)
    (hp:PureH P L rg kp oi d v ⟨env,O,vw,n,m⟩:=by
      intro t hn gx ho K' k';dsimp only at hn;refine .inl ?_;simp (disch:=first | decide | rfl) only [gx,zE,zP,aStepM,optable,Nat.reduceEqDiff,reduceIte,Nat.reduceLT,implies_true,forall_const,reduceCtorEq,V.ofValue,V.ofScalar,V.un,V.gd,aExec,aop,pickV,contentL,Value.oneCell',List.all_cons,List.all_nil,Bool.and_self,‹Tys _›.h,‹Fc _›.h];repeat (refine andA ?_)
      exact k'):aAny P L rg K (fuel+1) listed ⟨env,O,vw,n,m⟩:=aAny_take hK kp i d hi hd hf hr ⟨v,hp,b⟩
theorem zdgPick {P:Program} {L:Lend} {rg:Array Oper} {K:St→Prop} {fuel:Nat} {listed:Array Bool} {env:List (Nat×V)} {O:List Blk} {vw:Bool} {n m:Nat} {oi:Oper} {rest:List Oper} {v:V} (hK:∀s t,EqS s t→K s→K t) (kp:Bool) (i d:Nat)
    (b:aAny P L rg K fuel (listed.setIfInBounds i true) ⟨(d,v)::env,O,vw,n,m⟩) (hi:rg.toList.drop i=oi::rest:=by rfl) (hd:oi.dst=some d:=by rfl) (hf:Region.freeG L kp rg listed i=true:=by kernel_rfl) (hr:(Region.ready .any rg listed).contains i=true:=by kernel_rfl)
    (hp : PureH P L rg kp oi d v ⟨env,O,vw,n,m⟩:=by
      intro t hn gx ho K' k';dsimp only at hn;first
      | refine .inr (.inl ⟨?_,_,_,false,rfl,?_,nofun,fun _=>⟨.any,k'⟩⟩)
        · simp only [hn,dst_some,Nat.reduceLT]
        · first | rfl | (simp (disch:=decide) only [gx,zV,guardV,Nat.reduceEqDiff,reduceIte];done)
      | skip
        refine .inl ?_;simp (disch:=first | decide | rfl) only [gx,zE,zP,zG,aStepM,optable,Nat.reduceEqDiff,reduceIte,Nat.reduceLT,implies_true,forall_const,reduceCtorEq,V.ofValue,V.ofScalar,V.un,V.gd,guardV,V.wrap,aExec,aop,pickV,contentL,Value.oneCell',List.all_cons,List.all_nil,Bool.and_self,‹Tys _›.h,‹Fc _›.h];repeat (refine andA ?_)
        exact k'):aAny P L rg K (fuel+1) listed ⟨env,O,vw,n,m⟩:=aAny_take hK kp i d hi hd hf hr ⟨v,hp,b⟩
theorem zdLoad {P:Program} {L:Lend} {rg:Array Oper} {K:St→Prop} {fuel:Nat} {listed:Array Bool} {env:List (Nat×V)} {O:List Blk} {vw:Bool} {n m:Nat} {oi:Oper} {rest:List Oper} {v:V} (hK:∀s t,EqS s t→K s→K t) (kp:Bool) (i d:Nat)
    (b:aAny P L rg K fuel (listed.setIfInBounds i true) ⟨(d,v)::env,O,vw,n,m⟩) (hi:rg.toList.drop i=oi::rest:=by rfl) (hd:oi.dst=some d:=by rfl) (hf:Region.freeG L kp rg listed i=true:=by kernel_rfl) (hr:(Region.ready .any rg listed).contains i=true:=by kernel_rfl)
    (hp:PureH P L rg kp oi d v ⟨env,O,vw,n,m⟩:=by
      intro t hn gx ho K' k';dsimp only at hn;first | have r0:=row_all (ho rfl) 0 rfl | have r0:=True.intro
      first | have r1:=row_all (ho rfl) 1 rfl | have r1:=True.intro
      first | have r2:=row_all (ho rfl) 2 rfl | have r2:=True.intro
      first | have r3:=row_all (ho rfl) 3 rfl | have r3:=True.intro
      first | have r4:=row_all (ho rfl) 4 rfl | have r4:=True.intro
      first | have r5:=row_all (ho rfl) 5 rfl | have r5:=True.intro
      refine .inl ?_;simp (disch:=first | decide | rfl) only [gx,r0,r1,r2,r3,r4,r5,zE,zL,zO,zN,aStepM,optable,Nat.reduceEqDiff,reduceIte,Nat.reduceLT,implies_true,forall_const,reduceCtorEq,V.ofValue,V.ofScalar,V.un,V.gd,aExec,aop,aLoad,row_mk,Blk.row,PartOK,Go.Vm.part,V.cells,V.noSl,V.noRef,Nat.reduceAdd,Nat.reduceLeDiff,Nat.reduceMul,contentL,Value.oneCell',List.all_cons,List.all_nil,‹Tys _›.h,‹Fc _›.h];repeat (refine andA ?_)
      exact k'):aAny P L rg K (fuel+1) listed ⟨env,O,vw,n,m⟩:=aAny_take hK kp i d hi hd hf hr ⟨v,hp,b⟩
theorem zdLoadX {P:Program} {L:Lend} {rg:Array Oper} {K:St→Prop} {fuel:Nat} {listed:Array Bool} {env:List (Nat×V)} {O:List Blk} {vw:Bool} {n m:Nat} {oi:Oper} {rest:List Oper} {v:V} (hK:∀s t,EqS s t→K s→K t) (kp:Bool) (i d:Nat)
    (b:aAny P L rg K fuel (listed.setIfInBounds i true) ⟨(d,v)::env,O,vw,n,m⟩) (hi:rg.toList.drop i=oi::rest:=by rfl) (hd:oi.dst=some d:=by rfl) (hf:Region.freeG L kp rg listed i=true:=by kernel_rfl) (hr:(Region.ready .any rg listed).contains i=true:=by kernel_rfl)
    (hp:PureH P L rg kp oi d v ⟨env,O,vw,n,m⟩:=by
      intro t hn gx ho K' k';dsimp only at hn;first | have r0:=row_all (ho rfl) 0 rfl | have r0:=True.intro
      first | have r1:=row_all (ho rfl) 1 rfl | have r1:=True.intro
      first | have r2:=row_all (ho rfl) 2 rfl | have r2:=True.intro
      first | have r3:=row_all (ho rfl) 3 rfl | have r3:=True.intro
      first | have r4:=row_all (ho rfl) 4 rfl | have r4:=True.intro
      first | have r5:=row_all (ho rfl) 5 rfl | have r5:=True.intro
      first | have r6:=row_all (ho rfl) 6 rfl | have r6:=True.intro
      first | have r7:=row_all (ho rfl) 7 rfl | have r7:=True.intro
      first | have r8:=row_all (ho rfl) 8 rfl | have r8:=True.intro
      first | have r9:=row_all (ho rfl) 9 rfl | have r9:=True.intro
      first | have r10:=row_all (ho rfl) 10 rfl | have r10:=True.intro
      first | have r11:=row_all (ho rfl) 11 rfl | have r11:=True.intro
      first | have r12:=row_all (ho rfl) 12 rfl | have r12:=True.intro
      first | have r13:=row_all (ho rfl) 13 rfl | have r13:=True.intro
      first | have r14:=row_all (ho rfl) 14 rfl | have r14:=True.intro
      first | have r15:=row_all (ho rfl) 15 rfl | have r15:=True.intro
      first | have r16:=row_all (ho rfl) 16 rfl | have r16:=True.intro
      first | have r17:=row_all (ho rfl) 17 rfl | have r17:=True.intro
      first | have r18:=row_all (ho rfl) 18 rfl | have r18:=True.intro
      first | have r19:=row_all (ho rfl) 19 rfl | have r19:=True.intro
      first | have r20:=row_all (ho rfl) 20 rfl | have r20:=True.intro
      first | have r21:=row_all (ho rfl) 21 rfl | have r21:=True.intro
      first | have r22:=row_all (ho rfl) 22 rfl | have r22:=True.intro
      first | have r23:=row_all (ho rfl) 23 rfl | have r23:=True.intro
      refine .inl ?_;simp (disch:=first | decide | rfl) only [gx,r0,r1,r2,r3,r4,r5,zE,zL,zO,zN,r6,r7,r8,r9,r10,r11,r12,r13,r14,r15,r16,r17,r18,r19,r20,r21,r22,r23,aStepM,optable,Nat.reduceEqDiff,reduceIte,Nat.reduceLT,implies_true,forall_const,reduceCtorEq,V.ofValue,V.ofScalar,V.un,V.gd,aExec,aop,aLoad,row_mk,Blk.row,PartOK,Go.Vm.part,V.cells,V.noSl,V.noRef,Nat.reduceAdd,Nat.reduceLeDiff,Nat.reduceMul,contentL,Value.oneCell',List.all_cons,List.all_nil,‹Tys _›.h,‹Fc _›.h];repeat (refine andA ?_)
      exact k'):aAny P L rg K (fuel+1) listed ⟨env,O,vw,n,m⟩:=aAny_take hK kp i d hi hd hf hr ⟨v,hp,b⟩
theorem zdgLoad {P:Program} {L:Lend} {rg:Array Oper} {K:St→Prop} {fuel:Nat} {listed:Array Bool} {env:List (Nat×V)} {O:List Blk} {vw:Bool} {n m:Nat} {oi:Oper} {rest:List Oper} {v:V} (hK:∀s t,EqS s t→K s→K t) (kp:Bool) (i d:Nat)
    (b:aAny P L rg K fuel (listed.setIfInBounds i true) ⟨(d,v)::env,O,vw,n,m⟩) (hi:rg.toList.drop i=oi::rest:=by rfl) (hd:oi.dst=some d:=by rfl) (hf:Region.freeG L kp rg listed i=true:=by kernel_rfl) (hr:(Region.ready .any rg listed).contains i=true:=by kernel_rfl)
    (hp : PureH P L rg kp oi d v ⟨env,O,vw,n,m⟩:=by
      intro t hn gx ho K' k';dsimp only at hn;first | have r0:=row_all (ho rfl) 0 rfl | have r0:=True.intro
      first | have r1:=row_all (ho rfl) 1 rfl | have r1:=True.intro
      first | have r2:=row_all (ho rfl) 2 rfl | have r2:=True.intro
      first | have r3:=row_all (ho rfl) 3 rfl | have r3:=True.intro
      first | have r4:=row_all (ho rfl) 4 rfl | have r4:=True.intro
      first | have r5:=row_all (ho rfl) 5 rfl | have r5:=True.intro
      first
      | refine .inr (.inl ⟨?_,_,_,false,rfl,?_,nofun,fun _=>⟨.any,k'⟩⟩)
        · simp only [hn,dst_some,Nat.reduceLT]
        · first | rfl | (simp (disch:=decide) only [gx,zV,guardV,Nat.reduceEqDiff,reduceIte];done)
      | skip
        refine .inl ?_;simp (disch:=first | decide | rfl) only [gx,r0,r1,r2,r3,r4,r5,zE,zL,zO,zN,aStepM,optable,Nat.reduceEqDiff,reduceIte,Nat.reduceLT,implies_true,forall_const,reduceCtorEq,V.ofValue,V.ofScalar,V.un,V.gd,guardV,V.wrap,aExec,aop,aLoad,row_mk,Blk.row,PartOK,Go.Vm.part,V.cells,V.noSl,V.noRef,Nat.reduceAdd,Nat.reduceLeDiff,Nat.reduceMul,contentL,Value.oneCell',List.all_cons,List.all_nil,‹Tys _›.h,‹Fc _›.h];repeat (refine andA ?_)
        exact k'):aAny P L rg K (fuel+1) listed ⟨env,O,vw,n,m⟩:=aAny_take hK kp i d hi hd hf hr ⟨v,hp,b⟩
theorem zdgLoadX {P:Program} {L:Lend} {rg:Array Oper} {K:St→Prop} {fuel:Nat} {listed:Array Bool} {env:List (Nat×V)} {O:List Blk} {vw:Bool} {n m:Nat} {oi:Oper} {rest:List Oper} {v:V} (hK:∀s t,EqS s t→K s→K t) (kp:Bool) (i d:Nat)
    (b:aAny P L rg K fuel (listed.setIfInBounds i true) ⟨(d,v)::env,O,vw,n,m⟩) (hi:rg.toList.drop i=oi::rest:=by rfl) (hd:oi.dst=some d:=by rfl) (hf:Region.freeG L kp rg listed i=true:=by kernel_rfl) (hr:(Region.ready .any rg listed).contains i=true:=by kernel_rfl)
    (hp : PureH P L rg kp oi d v ⟨env,O,vw,n,m⟩:=by
      intro t hn gx ho K' k';dsimp only at hn;first | have r0:=row_all (ho rfl) 0 rfl | have r0:=True.intro
      first | have r1:=row_all (ho rfl) 1 rfl | have r1:=True.intro
      first | have r2:=row_all (ho rfl) 2 rfl | have r2:=True.intro
      first | have r3:=row_all (ho rfl) 3 rfl | have r3:=True.intro
      first | have r4:=row_all (ho rfl) 4 rfl | have r4:=True.intro
      first | have r5:=row_all (ho rfl) 5 rfl | have r5:=True.intro
      first | have r6:=row_all (ho rfl) 6 rfl | have r6:=True.intro
      first | have r7:=row_all (ho rfl) 7 rfl | have r7:=True.intro
      first | have r8:=row_all (ho rfl) 8 rfl | have r8:=True.intro
      first | have r9:=row_all (ho rfl) 9 rfl | have r9:=True.intro
      first | have r10:=row_all (ho rfl) 10 rfl | have r10:=True.intro
      first | have r11:=row_all (ho rfl) 11 rfl | have r11:=True.intro
      first | have r12:=row_all (ho rfl) 12 rfl | have r12:=True.intro
      first | have r13:=row_all (ho rfl) 13 rfl | have r13:=True.intro
      first | have r14:=row_all (ho rfl) 14 rfl | have r14:=True.intro
      first | have r15:=row_all (ho rfl) 15 rfl | have r15:=True.intro
      first | have r16:=row_all (ho rfl) 16 rfl | have r16:=True.intro
      first | have r17:=row_all (ho rfl) 17 rfl | have r17:=True.intro
      first | have r18:=row_all (ho rfl) 18 rfl | have r18:=True.intro
      first | have r19:=row_all (ho rfl) 19 rfl | have r19:=True.intro
      first | have r20:=row_all (ho rfl) 20 rfl | have r20:=True.intro
      first | have r21:=row_all (ho rfl) 21 rfl | have r21:=True.intro
      first | have r22:=row_all (ho rfl) 22 rfl | have r22:=True.intro
      first | have r23:=row_all (ho rfl) 23 rfl | have r23:=True.intro
      first
      | refine .inr (.inl ⟨?_,_,_,false,rfl,?_,nofun,fun _=>⟨.any,k'⟩⟩)
        · simp only [hn,dst_some,Nat.reduceLT]
        · first | rfl | (simp (disch:=decide) only [gx,zV,guardV,Nat.reduceEqDiff,reduceIte];done)
      | skip
        refine .inl ?_;simp (disch:=first | decide | rfl) only [gx,r0,r1,r2,r3,r4,r5,zE,zL,zO,zN,r6,r7,r8,r9,r10,r11,r12,r13,r14,r15,r16,r17,r18,r19,r20,r21,r22,r23,aStepM,optable,Nat.reduceEqDiff,reduceIte,Nat.reduceLT,implies_true,forall_const,reduceCtorEq,V.ofValue,V.ofScalar,V.un,V.gd,guardV,V.wrap,aExec,aop,aLoad,row_mk,Blk.row,PartOK,Go.Vm.part,V.cells,V.noSl,V.noRef,Nat.reduceAdd,Nat.reduceLeDiff,Nat.reduceMul,contentL,Value.oneCell',List.all_cons,List.all_nil,‹Tys _›.h,‹Fc _›.h];repeat (refine andA ?_)
        exact k'):aAny P L rg K (fuel+1) listed ⟨env,O,vw,n,m⟩:=aAny_take hK kp i d hi hd hf hr ⟨v,hp,b⟩
theorem zdNilCheck {P:Program} {L:Lend} {rg:Array Oper} {K:St→Prop} {fuel:Nat} {listed:Array Bool} {env:List (Nat×V)} {O:List Blk} {vw:Bool} {n m:Nat} {oi:Oper} {rest:List Oper} {v:V} (hK:∀s t,EqS s t→K s→K t) (kp:Bool) (i d:Nat)
    (b:aAny P L rg K fuel (listed.setIfInBounds i true) ⟨(d,v)::env,O,vw,n,m⟩) (hi:rg.toList.drop i=oi::rest:=by rfl) (hd:oi.dst=some d:=by rfl) (hf:Region.freeG L kp rg listed i=true:=by kernel_rfl) (hr:(Region.ready .any rg listed).contains i=true:=by kernel_rfl)
    (hp:PureH P L rg kp oi d v ⟨env,O,vw,n,m⟩:=by
      intro t hn gx ho K' k';dsimp only at hn;refine .inl ?_;simp (disch:=first | decide | rfl) only [gx,zE,aStepM,optable,Nat.reduceEqDiff,reduceIte,Nat.reduceLT,implies_true,forall_const,reduceCtorEq,V.ofValue,V.ofScalar,V.un,V.gd,aExec,aop,contentL,Value.oneCell',List.all_cons,List.all_nil,Bool.and_self,‹Tys _›.h,‹Fc _›.h];repeat (refine andA ?_)
      exact k'):aAny P L rg K (fuel+1) listed ⟨env,O,vw,n,m⟩:=aAny_take hK kp i d hi hd hf hr ⟨v,hp,b⟩
theorem zdBinOp {P:Program} {L:Lend} {rg:Array Oper} {K:St→Prop} {fuel:Nat} {listed:Array Bool} {env:List (Nat×V)} {O:List Blk} {vw:Bool} {n m:Nat} {oi:Oper} {rest:List Oper} {v:V} (hK:∀s t,EqS s t→K s→K t) (kp:Bool) (i d:Nat)
    (b:aAny P L rg K fuel (listed.setIfInBounds i true) ⟨(d,v)::env,O,vw,n,m⟩) (hi:rg.toList.drop i=oi::rest:=by rfl) (hd:oi.dst=some d:=by rfl) (hf:Region.freeG L kp rg listed i=true:=by kernel_rfl) (hr:(Region.ready .any rg listed).contains i=true:=by kernel_rfl)
    (hp:PureH P L rg kp oi d v ⟨env,O,vw,n,m⟩:=by
      intro t hn gx ho K' k';dsimp only at hn;refine .inl ?_;simp (disch:=first | decide | rfl) only [gx,zE,aStepM,optable,Nat.reduceEqDiff,reduceIte,Nat.reduceLT,implies_true,forall_const,reduceCtorEq,V.ofValue,V.ofScalar,V.un,V.gd,aExec,aop,aBin,isNil,or_true,true_or,or_false,false_or,EK.fitsL,EK.fits,cellsEq,cellEq,contentL,Value.oneCell',List.all_cons,List.all_nil,Bool.and_self,‹Tys _›.h,‹Fc _›.h];repeat (refine andA ?_)
      exact k'):aAny P L rg K (fuel+1) listed ⟨env,O,vw,n,m⟩:=aAny_take hK kp i d hi hd hf hr ⟨v,hp,b⟩
theorem zdBinOpW {P:Program} {L:Lend} {rg:Array Oper} {K:St→Prop} {fuel:Nat} {listed:Array Bool} {env:List (Nat×V)} {O:List Blk} {vw:Bool} {n m:Nat} {oi:Oper} {rest:List Oper} {v:V} (hK:∀s t,EqS s t→K s→K t) (kp:Bool) (i d:Nat)
    (b:aAny P L rg K fuel (listed.setIfInBounds i true) ⟨(d,v)::env,O,vw,n,m⟩) (hi:rg.toList.drop i=oi::rest:=by rfl) (hd:oi.dst=some d:=by rfl) (hf:Region.freeG L kp rg listed i=true:=by kernel_rfl) (hr:(Region.ready .any rg listed).contains i=true:=by kernel_rfl)
    (hp:PureH P L rg kp oi d v ⟨env,O,vw,n,m⟩:=by
      intro t hn gx ho K' k';dsimp only at hn;refine .inl ?_;simp (disch:=first | decide | rfl) only [gx,zE,aStepM,optable,Nat.reduceEqDiff,reduceIte,Nat.reduceLT,implies_true,forall_const,reduceCtorEq,V.ofValue,V.ofScalar,V.un,V.gd,aExec,aop,aBin,isNil,or_true,true_or,or_false,false_or,EK.fitsL,EK.fits,cellsEq,cellEq,contentL,Value.oneCell',List.all_cons,List.all_nil,Bool.and_self,‹Tys _›.h,‹Fc _›.h];try simp (disch:=omega) only [wrap64]
      repeat (refine andA ?_)
      exact k'):aAny P L rg K (fuel+1) listed ⟨env,O,vw,n,m⟩:=aAny_take hK kp i d hi hd hf hr ⟨v,hp,b⟩
theorem zdgBinOp {P:Program} {L:Lend} {rg:Array Oper} {K:St→Prop} {fuel:Nat} {listed:Array Bool} {env:List (Nat×V)} {O:List Blk} {vw:Bool} {n m:Nat} {oi:Oper} {rest:List Oper} {v:V} (hK:∀s t,EqS s t→K s→K t) (kp:Bool) (i d:Nat)
    (b:aAny P L rg K fuel (listed.setIfInBounds i true) ⟨(d,v)::env,O,vw,n,m⟩) (hi:rg.toList.drop i=oi::rest:=by rfl) (hd:oi.dst=some d:=by rfl) (hf:Region.freeG L kp rg listed i=true:=by kernel_rfl) (hr:(Region.ready .any rg listed).contains i=true:=by kernel_rfl)
    (hp : PureH P L rg kp oi d v ⟨env,O,vw,n,m⟩:=by
      intro t hn gx ho K' k';dsimp only at hn;first
      | refine .inr (.inl ⟨?_,_,_,false,rfl,?_,nofun,fun _=>⟨.any,k'⟩⟩)
        · simp only [hn,dst_some,Nat.reduceLT]
        · first | rfl | (simp (disch:=decide) only [gx,zV,guardV,Nat.reduceEqDiff,reduceIte];done)
      | skip
        refine .inl ?_;simp (disch:=first | decide | rfl) only [gx,zE,zG,aStepM,optable,Nat.reduceEqDiff,reduceIte,Nat.reduceLT,implies_true,forall_const,reduceCtorEq,V.ofValue,V.ofScalar,V.un,V.gd,guardV,V.wrap,aExec,aop,aBin,isNil,or_true,true_or,or_false,false_or,EK.fitsL,EK.fits,cellsEq,cellEq,contentL,Value.oneCell',List.all_cons,List.all_nil,Bool.and_self,‹Tys _›.h,‹Fc _›.h];repeat (refine andA ?_)
        exact k'):aAny P L rg K (fuel+1) listed ⟨env,O,vw,n,m⟩:=aAny_take hK kp i d hi hd hf hr ⟨v,hp,b⟩
theorem zdgBinOpW {P:Program} {L:Lend} {rg:Array Oper} {K:St→Prop} {fuel:Nat} {listed:Array Bool} {env:List (Nat×V)} {O:List Blk} {vw:Bool} {n m:Nat} {oi:Oper} {rest:List Oper} {v:V} (hK:∀s t,EqS s t→K s→K t) (kp:Bool) (i d:Nat)
    (b:aAny P L rg K fuel (listed.setIfInBounds i true) ⟨(d,v)::env,O,vw,n,m⟩) (hi:rg.toList.drop i=oi::rest:=by rfl) (hd:oi.dst=some d:=by rfl) (hf:Region.freeG L kp rg listed i=true:=by kernel_rfl) (hr:(Region.ready .any rg listed).contains i=true:=by kernel_rfl)
    (hp : PureH P L rg kp oi d v ⟨env,O,vw,n,m⟩:=by
      intro t hn gx ho K' k';dsimp only at hn;first
      | refine .inr (.inl ⟨?_,_,_,false,rfl,?_,nofun,fun _=>⟨.any,k'⟩⟩)
        · simp only [hn,dst_some,Nat.reduceLT]
        · first | rfl | (simp (disch:=decide) only [gx,zV,guardV,Nat.reduceEqDiff,reduceIte];done)
      | skip
        refine .inl ?_;simp (disch:=first | decide | rfl) only [gx,zE,zG,aStepM,optable,Nat.reduceEqDiff,reduceIte,Nat.reduceLT,implies_true,forall_const,reduceCtorEq,V.ofValue,V.ofScalar,V.un,V.gd,guardV,V.wrap,aExec,aop,aBin,isNil,or_true,true_or,or_false,false_or,EK.fitsL,EK.fits,cellsEq,cellEq,contentL,Value.oneCell',List.all_cons,List.all_nil,Bool.and_self,‹Tys _›.h,‹Fc _›.h];try simp (disch:=omega) only [wrap64]
        repeat (refine andA ?_)
        exact k'):aAny P L rg K (fuel+1) listed ⟨env,O,vw,n,m⟩:=aAny_take hK kp i d hi hd hf hr ⟨v,hp,b⟩
theorem zdUnOp {P:Program} {L:Lend} {rg:Array Oper} {K:St→Prop} {fuel:Nat} {listed:Array Bool} {env:List (Nat×V)} {O:List Blk} {vw:Bool} {n m:Nat} {oi:Oper} {rest:List Oper} {v:V} (hK:∀s t,EqS s t→K s→K t) (kp:Bool) (i d:Nat)
    (b:aAny P L rg K fuel (listed.setIfInBounds i true) ⟨(d,v)::env,O,vw,n,m⟩) (hi:rg.toList.drop i=oi::rest:=by rfl) (hd:oi.dst=some d:=by rfl) (hf:Region.freeG L kp rg listed i=true:=by kernel_rfl) (hr:(Region.ready .any rg listed).contains i=true:=by kernel_rfl)
    (hp:PureH P L rg kp oi d v ⟨env,O,vw,n,m⟩:=by
      intro t hn gx ho K' k';dsimp only at hn;refine .inl ?_;simp (disch:=first | decide | rfl) only [gx,zE,aStepM,optable,Nat.reduceEqDiff,reduceIte,Nat.reduceLT,implies_true,forall_const,reduceCtorEq,V.ofValue,V.ofScalar,V.un,V.gd,aExec,aop,aUn,contentL,Value.oneCell',List.all_cons,List.all_nil,Bool.and_self,‹Tys _›.h,‹Fc _›.h];repeat (refine andA ?_)
      exact k'):aAny P L rg K (fuel+1) listed ⟨env,O,vw,n,m⟩:=aAny_take hK kp i d hi hd hf hr ⟨v,hp,b⟩
theorem zdFieldAddr {P:Program} {L:Lend} {rg:Array Oper} {K:St→Prop} {fuel:Nat} {listed:Array Bool} {env:List (Nat×V)} {O:List Blk} {vw:Bool} {n m:Nat} {oi:Oper} {rest:List Oper} {v:V} (hK:∀s t,EqS s t→K s→K t) (kp:Bool) (i d:Nat)
    (b:aAny P L rg K fuel (listed.setIfInBounds i true) ⟨(d,v)::env,O,vw,n,m⟩) (hi:rg.toList.drop i=oi::rest:=by rfl) (hd:oi.dst=some d:=by rfl) (hf:Region.freeG L kp rg listed i=true:=by kernel_rfl) (hr:(Region.ready .any rg listed).contains i=true:=by kernel_rfl)
    (hp:PureH P L rg kp oi d v ⟨env,O,vw,n,m⟩:=by
      intro t hn gx ho K' k';dsimp only at hn;refine .inl ?_;simp (disch:=first | decide | rfl) only [gx,zE,zL,zN,aStepM,optable,Nat.reduceEqDiff,reduceIte,Nat.reduceLT,implies_true,forall_const,reduceCtorEq,V.ofValue,V.ofScalar,V.un,V.gd,aExec,aop,aFieldAddr,Nat.reduceAdd,Nat.reduceLeDiff,Nat.reduceMul,contentL,Value.oneCell',List.all_cons,List.all_nil,Bool.and_self,‹Tys _›.h,‹Fc _›.h];repeat (refine andA ?_)
      exact k'):aAny P L rg K (fuel+1) listed ⟨env,O,vw,n,m⟩:=aAny_take hK kp i d hi hd hf hr ⟨v,hp,b⟩
theorem zdgFieldAddr {P:Program} {L:Lend} {rg:Array Oper} {K:St→Prop} {fuel:Nat} {listed:Array Bool} {env:List (Nat×V)} {O:List Blk} {vw:Bool} {n m:Nat} {oi:Oper} {rest:List Oper} {v:V} (hK:∀s t,EqS s t→K s→K t) (kp:Bool) (i d:Nat)
    (b:aAny P L rg K fuel (listed.setIfInBounds i true) ⟨(d,v)::env,O,vw,n,m⟩) (hi:rg.toList.drop i=oi::rest:=by rfl) (hd:oi.dst=some d:=by rfl) (hf:Region.freeG L kp rg listed i=true:=by kernel_rfl) (hr:(Region.ready .any rg listed).contains i=true:=by kernel_rfl)
    (hp : PureH P L rg kp oi d v ⟨env,O,vw,n,m⟩:=by
      intro t hn gx ho K' k';dsimp only at hn;first
      | refine .inr (.inl ⟨?_,_,_,false,rfl,?_,nofun,fun _=>⟨.any,k'⟩⟩)
        · simp only [hn,dst_some,Nat.reduceLT]
        · first | rfl | (simp (disch:=decide) only [gx,zV,guardV,Nat.reduceEqDiff,reduceIte];done)
      | skip
        refine .inl ?_;simp (disch:=first | decide | rfl) only [gx,zE,zL,zN,aStepM,optable,Nat.reduceEqDiff,reduceIte,Nat.reduceLT,implies_true,forall_const,reduceCtorEq,V.ofValue,V.ofScalar,V.un,V.gd,guardV,V.wrap,aExec,aop,aFieldAddr,Nat.reduceAdd,Nat.reduceLeDiff,Nat.reduceMul,contentL,Value.oneCell',List.all_cons,List.all_nil,Bool.and_self,‹Tys _›.h,‹Fc _›.h];repeat (refine andA ?_)
        exact k'):aAny P L rg K (fuel+1) listed ⟨env,O,vw,n,m⟩:=aAny_take hK kp i d hi hd hf hr ⟨v,hp,b⟩
theorem zdIndexAddr {P:Program} {L:Lend} {rg:Array Oper} {K:St→Prop} {fuel:Nat} {listed:Array Bool} {env:List (Nat×V)} {O:List Blk} {vw:Bool} {n m:Nat} {oi:Oper} {rest:List Oper} {v:V} (hK:∀s t,EqS s t→K s→K t) (kp:Bool) (i d:Nat)
    (b:aAny P L rg K fuel (listed.setIfInBounds i true) ⟨(d,v)::env,O,vw,n,m⟩) (hi:rg.toList.drop i=oi::rest:=by rfl) (hd:oi.dst=some d:=by rfl) (hf:Region.freeG L kp rg listed i=true:=by kernel_rfl) (hr:(Region.ready .any rg listed).contains i=true:=by kernel_rfl)
    (hp:PureH P L rg kp oi d v ⟨env,O,vw,n,m⟩:=by
      intro t hn gx ho K' k';dsimp only at hn;first | have r0:=row_all (ho rfl) 0 rfl | have r0:=True.intro
      first | have r1:=row_all (ho rfl) 1 rfl | have r1:=True.intro
      first | have r2:=row_all (ho rfl) 2 rfl | have r2:=True.intro
      first | have r3:=row_all (ho rfl) 3 rfl | have r3:=True.intro
      first | have r4:=row_all (ho rfl) 4 rfl | have r4:=True.intro
      first | have r5:=row_all (ho rfl) 5 rfl | have r5:=True.intro
      refine .inl ?_;simp (disch:=first | decide | rfl) only [gx,r0,r1,r2,r3,r4,r5,zE,zL,zN,aStepM,optable,Nat.reduceEqDiff,reduceIte,Nat.reduceLT,implies_true,forall_const,reduceCtorEq,V.ofValue,V.ofScalar,V.un,V.gd,aExec,aop,List.mem_cons,List.not_mem_nil,or_false,forall_eq_or_imp,forall_eq,aIndexAddr,row_mk,Blk.row,Go.Vm.V.cells,List.forall_mem_map,List.length_map,Int.toNat_natCast,Int.reduceToNat,TypeDesc.slice.injEq,Nat.reduceAdd,Nat.reduceLeDiff,Nat.reduceMul,contentL,Value.oneCell',List.all_cons,List.all_nil,Bool.and_self,‹Tys _›.h,‹Fc _›.h];repeat (refine andA ?_)
      exact k'):aAny P L rg K (fuel+1) listed ⟨env,O,vw,n,m⟩:=aAny_take hK kp i d hi hd hf hr ⟨v,hp,b⟩
theorem zdgIndexAddr {P:Program} {L:Lend} {rg:Array Oper} {K:St→Prop} {fuel:Nat} {listed:Array Bool} {env:List (Nat×V)} {O:List Blk} {vw:Bool} {n m:Nat} {oi:Oper} {rest:List Oper} {v:V} (hK:∀s t,EqS s t→K s→K t) (kp:Bool) (i d:Nat)
    (b:aAny P L rg K fuel (listed.setIfInBounds i true) ⟨(d,v)::env,O,vw,n,m⟩) (hi:rg.toList.drop i=oi::rest:=by rfl) (hd:oi.dst=some d:=by rfl) (hf:Region.freeG L kp rg listed i=true:=by kernel_rfl) (hr:(Region.ready .any rg listed).contains i=true:=by kernel_rfl)
    (hp : PureH P L rg kp oi d v ⟨env,O,vw,n,m⟩:=by
      intro t hn gx ho K' k';dsimp only at hn;first | have r0:=row_all (ho rfl) 0 rfl | have r0:=True.intro
      first | have r1:=row_all (ho rfl) 1 rfl | have r1:=True.intro
      first | have r2:=row_all (ho rfl) 2 rfl | have r2:=True.intro
      first | have r3:=row_all (ho rfl) 3 rfl | have r3:=True.intro
      first | have r4:=row_all (ho rfl) 4 rfl | have r4:=True.intro
      first | have r5:=row_all (ho rfl) 5 rfl | have r5:=True.intro
      first
      | refine .inr (.inl ⟨?_,_,_,false,rfl,?_,nofun,fun _=>⟨.any,k'⟩⟩)
        · simp only [hn,dst_some,Nat.reduceLT]
        · first | rfl | (simp (disch:=decide) only [gx,zV,guardV,Nat.reduceEqDiff,reduceIte];done)
      | skip
        refine .inl ?_;simp (disch:=first | decide | rfl) only [gx,r0,r1,r2,r3,r4,r5,zE,zL,zN,aStepM,optable,Nat.reduceEqDiff,reduceIte,Nat.reduceLT,implies_true,forall_const,reduceCtorEq,V.ofValue,V.ofScalar,V.un,V.gd,guardV,V.wrap,aExec,aop,List.mem_cons,List.not_mem_nil,or_false,forall_eq_or_imp,forall_eq,aIndexAddr,row_mk,Blk.row,Go.Vm.V.cells,List.forall_mem_map,List.length_map,Int.toNat_natCast,Int.reduceToNat,TypeDesc.slice.injEq,Nat.reduceAdd,Nat.reduceLeDiff,Nat.reduceMul,contentL,Value.oneCell',List.all_cons,List.all_nil,Bool.and_self,‹Tys _›.h,‹Fc _›.h];repeat (refine andA ?_)
        exact k'):aAny P L rg K (fuel+1) listed ⟨env,O,vw,n,m⟩:=aAny_take hK kp i d hi hd hf hr ⟨v,hp,b⟩
theorem zdSlice {P:Program} {L:Lend} {rg:Array Oper} {K:St→Prop} {fuel:Nat} {listed:Array Bool} {env:List (Nat×V)} {O:List Blk} {vw:Bool} {n m:Nat} {oi:Oper} {rest:List Oper} {v:V} (hK:∀s t,EqS s t→K s→K t) (kp:Bool) (i d:Nat)
    (b:aAny P L rg K fuel (listed.setIfInBounds i true) ⟨(d,v)::env,O,vw,n,m⟩) (hi:rg.toList.drop i=oi::rest:=by rfl) (hd:oi.dst=some d:=by rfl) (hf:Region.freeG L kp rg listed i=true:=by kernel_rfl) (hr:(Region.ready .any rg listed).contains i=true:=by kernel_rfl)
    (hp:PureH P L rg kp oi d v ⟨env,O,vw,n,m⟩:=by
      intro t hn gx ho K' k';dsimp only at hn;first | have r0:=row_all (ho rfl) 0 rfl | have r0:=True.intro
      first | have r1:=row_all (ho rfl) 1 rfl | have r1:=True.intro
      first | have r2:=row_all (ho rfl) 2 rfl | have r2:=True.intro
      first | have r3:=row_all (ho rfl) 3 rfl | have r3:=True.intro
      first | have r4:=row_all (ho rfl) 4 rfl | have r4:=True.intro
      first | have r5:=row_all (ho rfl) 5 rfl | have r5:=True.intro
      refine .inl ?_;simp (disch:=first | decide | rfl) only [gx,r0,r1,r2,r3,r4,r5,zE,zL,zN,aStepM,optable,Nat.reduceEqDiff,reduceIte,Nat.reduceLT,implies_true,forall_const,reduceCtorEq,V.ofValue,V.ofScalar,V.un,V.gd,aExec,aop,List.set_cons_zero,List.set_cons_succ,aSlice,forall_eq',bound,ElemsOK,Option.map_none,Option.isNone_none,row_mk,Blk.row,TypeDesc.slice.injEq,List.forall_mem_map,List.length_map,Go.Vm.V.cells,Int.toNat_natCast,Int.reduceToNat,←List.map_take,←List.map_drop,List.take_length,Nat.reduceAdd,Nat.reduceLeDiff,Nat.reduceMul,contentL,Value.oneCell',List.all_cons,List.all_nil,Bool.and_self,‹Tys _›.h,‹Fc _›.h];repeat (refine andA ?_)
      exact k'):aAny P L rg K (fuel+1) listed ⟨env,O,vw,n,m⟩:=aAny_take hK kp i d hi hd hf hr ⟨v,hp,b⟩
theorem zdLen {P:Program} {L:Lend} {rg:Array Oper} {K:St→Prop} {fuel:Nat} {listed:Array Bool} {env:List (Nat×V)} {O:List Blk} {vw:Bool} {n m:Nat} {oi:Oper} {rest:List Oper} {v:V} (hK:∀s t,EqS s t→K s→K t) (kp:Bool) (i d:Nat)
    (b:aAny P L rg K fuel (listed.setIfInBounds i true) ⟨(d,v)::env,O,vw,n,m⟩) (hi:rg.toList.drop i=oi::rest:=by rfl) (hd:oi.dst=some d:=by rfl) (hf:Region.freeG L kp rg listed i=true:=by kernel_rfl) (hr:(Region.ready .any rg listed).contains i=true:=by kernel_rfl)
    (hp:PureH P L rg kp oi d v ⟨env,O,vw,n,m⟩:=by
      intro t hn gx ho K' k';dsimp only at hn;first | have r0:=row_all (ho rfl) 0 rfl | have r0:=True.intro
      first | have r1:=row_all (ho rfl) 1 rfl | have r1:=True.intro
      first | have r2:=row_all (ho rfl) 2 rfl | have r2:=True.intro
      first | have r3:=row_all (ho rfl) 3 rfl | have r3:=True.intro
      first | have r4:=row_all (ho rfl) 4 rfl | have r4:=True.intro
      first | have r5:=row_all (ho rfl) 5 rfl | have r5:=True.intro
      refine .inl ?_;simp (disch:=first | decide | rfl) only [gx,r0,r1,r2,r3,r4,r5,zE,zL,zN,aStepM,optable,Nat.reduceEqDiff,reduceIte,Nat.reduceLT,implies_true,forall_const,reduceCtorEq,V.ofValue,V.ofScalar,V.un,V.gd,aExec,aop,List.length_map,aLen,lenOK,row_mk,Blk.row,List.size_toArray,List.getD_eq_getElem?_getD,Array.getD_eq_getD_getElem?,Option.getD_some,Nat.reduceAdd,Nat.reduceLeDiff,Nat.reduceMul,contentL,Value.oneCell',List.all_cons,List.all_nil,Bool.and_self,‹Tys _›.h,‹Fc _›.h];repeat (refine andA ?_)
      exact k'):aAny P L rg K (fuel+1) listed ⟨env,O,vw,n,m⟩:=aAny_take hK kp i d hi hd hf hr ⟨v,hp,b⟩
theorem zdConvert {P:Program} {L:Lend} {rg:Array Oper} {K:St→Prop} {fuel:Nat} {listed:Array Bool} {env:List (Nat×V)} {O:List Blk} {vw:Bool} {n m:Nat} {oi:Oper} {rest:List Oper} {v:V} (hK:∀s t,EqS s t→K s→K t) (kp:Bool) (i d:Nat)
    (b:aAny P L rg K fuel (listed.setIfInBounds i true) ⟨(d,v)::env,O,vw,n,m⟩) (hi:rg.toList.drop i=oi::rest:=by rfl) (hd:oi.dst=some d:=by rfl) (hf:Region.freeG L kp rg listed i=true:=by kernel_rfl) (hr:(Region.ready .any rg listed).contains i=true:=by kernel_rfl)
    (hp:PureH P L rg kp oi d v ⟨env,O,vw,n,m⟩:=by
      intro t hn gx ho K' k';dsimp only at hn;refine .inl ?_;simp (disch:=first | decide | rfl) only [gx,zE,zL,zN,aStepM,optable,Nat.reduceEqDiff,reduceIte,Nat.reduceLT,implies_true,forall_const,reduceCtorEq,V.ofValue,V.ofScalar,V.un,V.gd,aExec,aop,unByte,row_mk,Blk.row,TypeDesc.slice.injEq,Nat.reduceAdd,Nat.reduceLeDiff,Nat.reduceMul,contentL,Value.oneCell',List.all_cons,List.all_nil,Bool.and_self,‹Tys _›.h,‹Fc _›.h];repeat (refine andA ?_)
      exact k'):aAny P L rg K (fuel+1) listed ⟨env,O,vw,n,m⟩:=aAny_take hK kp i d hi hd hf hr ⟨v,hp,b⟩
theorem zdConvertY {P:Program} {L:Lend} {rg:Array Oper} {K:St→Prop} {fuel:Nat} {listed:Array Bool} {env:List (Nat×V)} {O:List Blk} {vw:Bool} {n m:Nat} {oi:Oper} {rest:List Oper} {v:V} (hK:∀s t,EqS s t→K s→K t) (kp:Bool) (i d:Nat)
    (b:aAny P L rg K fuel (listed.setIfInBounds i true) ⟨(d,v)::env,O,vw,n,m⟩) (hi:rg.toList.drop i=oi::rest:=by rfl) (hd:oi.dst=some d:=by rfl) (hf:Region.freeG L kp rg listed i=true:=by kernel_rfl) (hr:(Region.ready .any rg listed).contains i=true:=by kernel_rfl)
    (hp:PureH P L rg kp oi d v ⟨env,O,vw,n,m⟩:=by
      intro t hn gx ho K' k';dsimp only at hn;first | have r0:=row_all (ho rfl) 0 rfl | have r0:=True.intro
      first | have r1:=row_all (ho rfl) 1 rfl | have r1:=True.intro
      first | have r2:=row_all (ho rfl) 2 rfl | have r2:=True.intro
      first | have r3:=row_all (ho rfl) 3 rfl | have r3:=True.intro
      first | have r4:=row_all (ho rfl) 4 rfl | have r4:=True.intro
      first | have r5:=row_all (ho rfl) 5 rfl | have r5:=True.intro
      refine .inl ?_;simp (disch:=first | decide | rfl) only [gx,r0,r1,r2,r3,r4,r5,zE,zL,zN,aStepM,optable,Nat.reduceEqDiff,reduceIte,Nat.reduceLT,implies_true,forall_const,reduceCtorEq,V.ofValue,V.ofScalar,V.un,V.gd,aExec,aop,unByte,row_mk,Blk.row,TypeDesc.slice.injEq,Nat.reduceAdd,Nat.reduceLeDiff,Nat.reduceMul,contentL,Value.oneCell',List.all_cons,List.all_nil,Bool.and_self,‹Tys _›.h,‹Fc _›.h];repeat (refine andA ?_)
      exact k'):aAny P L rg K (fuel+1) listed ⟨env,O,vw,n,m⟩:=aAny_take hK kp i d hi hd hf hr ⟨v,hp,b⟩
theorem zdBuild {P:Program} {L:Lend} {rg:Array Oper} {K:St→Prop} {fuel:Nat} {listed:Array Bool} {env:List (Nat×V)} {O:List Blk} {vw:Bool} {n m:Nat} {oi:Oper} {rest:List Oper} {v:V} (hK:∀s t,EqS s t→K s→K t) (kp:Bool) (i d:Nat)
    (b:aAny P L rg K fuel (listed.setIfInBounds i true) ⟨(d,v)::env,O,vw,n,m⟩) (hi:rg.toList.drop i=oi::rest:=by rfl) (hd:oi.dst=some d:=by rfl) (hf:Region.freeG L kp rg listed i=true:=by kernel_rfl) (hr:(Region.ready .any rg listed).contains i=true:=by kernel_rfl)
    (hp:PureH P L rg kp oi d v ⟨env,O,vw,n,m⟩:=by
      intro t hn gx ho K' k';dsimp only at hn;refine .inl ?_;simp (disch:=first | decide | rfl) only [gx,zE,zL,zO,zN,aStepM,optable,Nat.reduceEqDiff,reduceIte,Nat.reduceLT,implies_true,forall_const,reduceCtorEq,V.ofValue,V.ofScalar,V.un,V.gd,aExec,aop,fillV,if_true,Nat.zero_mul,Nat.one_mul,Nat.mul_one,V.isVal,V.cells,List.mem_cons,List.not_mem_nil,or_false,forall_eq_or_imp,forall_eq,Nat.reduceAdd,Nat.reduceLeDiff,Nat.reduceMul,contentL,Value.oneCell',List.all_cons,List.all_nil,‹Tys _›.h,‹Fc _›.h];repeat (refine andA ?_)
      exact k'):aAny P L rg K (fuel+1) listed ⟨env,O,vw,n,m⟩:=aAny_take hK kp i d hi hd hf hr ⟨v,hp,b⟩
theorem zoAssign {P:Program} {L:Lend} {rg:Array Oper} {K:St→Prop} {fuel:Nat} {listed:Array Bool} {s:St} {oi:Oper} {rest:List Oper} {B:Prop} (i:Nat) (b:Ho B) (hi:rg.toList.drop i=oi::rest:=by rfl) (hr:Region.ready .any rg listed=[i]:=by kernel_rfl)
    (e:Ho B→(∀K':St→Prop,(∀s,aAny P L rg K fuel (listed.setIfInBounds i true) s→K' s)→aStepM P L rg oi s K'):=by
      intro b K k;simp only [zE,zS,aStepM,optable,set_some,Nat.reduceEqDiff,reduceIte,Nat.reduceLT,implies_true,forall_const,reduceCtorEq,V.ofValue,V.ofScalar,V.un,V.gd,aExec,aop,Nat.reduceAdd,contentL,Value.oneCell',List.all_cons,List.all_nil,Bool.and_self,‹Tys _›.h,‹Fc _›.h];repeat (refine andA ?_)
      refine k _ ?_;clear k K;exact b.h):aAny P L rg K (fuel+1) listed s:=aAny_only i hi hr (e b)
theorem zoBuildSlice {P:Program} {L:Lend} {rg:Array Oper} {K:St→Prop} {fuel:Nat} {listed:Array Bool} {s:St} {oi:Oper} {rest:List Oper} {B:Prop} (i:Nat) (b:Ho B) (hi:rg.toList.drop i=oi::rest:=by rfl) (hr:Region.ready .any rg listed=[i]:=by kernel_rfl)
    (e:Ho B→(∀K':St→Prop,(∀s,aAny P L rg K fuel (listed.setIfInBounds i true) s→K' s)→aStepM P L rg oi s K'):=by
      intro b K k;simp only [zE,zO,zN,aStepM,optable,set_some,Nat.reduceEqDiff,reduceIte,Nat.reduceLT,implies_true,forall_const,reduceCtorEq,V.ofValue,V.ofScalar,V.un,V.gd,aExec,aop,litElems,rng0,rng1,rng2,rng3,rng4,rng5,rng6,rng7,rng8,rng9,rng10,rng11,rng12,List.map_cons,List.map_nil,List.all_cons,List.all_nil,V.isVal,V.cells,content,contentL,kindAll,V.noRef,V.noSl,List.mem_cons,List.not_mem_nil,or_false,forall_eq_or_imp,forall_eq,if_true,Option.isSome_some,List.length_cons,List.length_nil,Nat.reduceAdd,Nat.reduceLeDiff,Nat.reduceMul,Value.oneCell',‹Tys _›.h,‹Fc _›.h];repeat (refine andA ?_)
      refine k _ ?_;clear k K;exact b.h):aAny P L rg K (fuel+1) listed s:=aAny_only i hi hr (e b)
theorem zoAppend {P:Program} {L:Lend} {rg:Array Oper} {K:St→Prop} {fuel:Nat} {listed:Array Bool} {s:St} {oi:Oper} {rest:List Oper} {B:Prop} (i:Nat) (b:Ho B) (hi:rg.toList.drop i=oi::rest:=by rfl) (hr:Region.ready .any rg listed=[i]:=by kernel_rfl)
    (e:Ho B→(∀K':St→Prop,(∀s,aAny P L rg K fuel (listed.setIfInBounds i true) s→K' s)→aStepM P L rg oi s K'):=by
      intro b K k;simp only [zE,zL,zO,zN,aStepM,optable,set_some,Nat.reduceEqDiff,reduceIte,Nat.reduceLT,implies_true,forall_const,reduceCtorEq,V.ofValue,V.ofScalar,V.un,V.gd,aExec,aop,fillK_thin,beq_self_eq_true,List.nodup_cons,List.mem_singleton,forall_eq',List.size_toArray,List.getD_eq_getElem?_getD,Array.getD_eq_getD_getElem?,Option.getD_some,aAppend,destOf,srcOf,takeElems,takeV,takeCell,takeCells,row_mk,Blk.row,killAll,V.isSub,V.noSl,Value.cells,Option.toList,List.forall_mem_map,List.length_map,List.all_cons,List.all_nil,List.isEmpty_nil,List.isEmpty_cons,List.not_mem_nil,List.nodup_nil,join_ff,join_ft,join_fv,join_d,join_s,fillK_join0,fillK_join,List.mem_cons,or_false,forall_eq_or_imp,forall_eq,List.set_cons_zero,List.set_cons_succ,List.length_append,Go.Vm.V.cells,Nat.reduceAdd,Nat.reduceLeDiff,Nat.reduceMul,contentL,Value.oneCell',‹Tys _›.h,‹Fc _›.h];repeat (refine andA ?_)
      refine k _ ?_;clear k K;exact b.h):aAny P L rg K (fuel+1) listed s:=aAny_only i hi hr (e b)
theorem zoc {P:Program} {L:Lend} {rg:Array Oper} {K:St→Prop} {fuel:Nat} {listed:Array Bool} {s:St} {oi:Oper} {rest:List Oper} {B:Prop} {C:Prop} (i:Nat) (con:C) (b:Ho B) (hi:rg.toList.drop i=oi::rest:=by rfl) (hr:Region.ready .any rg listed=[i]:=by kernel_rfl)
    (e:C→Ho B→(∀K':St→Prop,(∀s,aAny P L rg K fuel (listed.setIfInBounds i true) s→K' s)→aStepM P L rg oi s K'):=by
      intro con b K k;simp only [zE,zM,aStepM,optable,set_some,Nat.reduceEqDiff,reduceIte,Nat.reduceLT,implies_true,forall_const,reduceCtorEq,V.ofValue,V.ofScalar,V.un,V.gd,aExec,lentIds,lendOf,‹Tys _›.h,‹Fc _›.h];repeat (refine andC ?_)
      refine aCall_new con (by first | rfl | (simp only [toArgs,toArg,toCell,toCells,toRows,Option.map_some,idx,row_mk,List.getElem?_cons_zero,List.getElem?_cons_succ,Option.bind_some,Blk.row,fillK_mix,thK_mix,flat_mix,deep_mix,thin_mix,shal_mix,cond_true,List.map_take];done) | (simp [toArgs,toArg,toCell,toCells,toRows,idx,row_mk,Blk.row,fillK_mix,thK_mix,flat_mix,deep_mix,thin_mix,shal_mix,Nat.beq_refl];done)) (by first | exact .inl ⟨rfl,by simp [Blk.kindIs,fillK_fd,thK_fd]⟩ | exact .inr (by simp [V.cold])) ?_;refine k _ ?_;clear k K;simp only [zY,zW,set_some,Nat.reduceEqDiff,reduceIte,V.ren,V.renL,rho,Nat.reduceAdd];exact b.h):aAny P L rg K (fuel+1) listed s:=aAny_only i hi hr (e con b)
end Go.Vm
namespace Go.Vm
open Go
def opNo (o:Oper):Nat:=(match o.op with
  | .move _=>0
  | .assign _=>2
  | .pick _ _ _=>4
  | .alloc _=>6
  | .box _ _=>8
  | .build _ _=>10
  | .buildSlice _ _ _=>12
  | .load _ _=>14
  | .store _ _ _=>16
  | .nilCheck _=>18
  | .unOp _ _ _=>26
  | .convert _ _ _=>28
  | .makeSlice _ _ _=>30
  | .slice _ _ _ _ _=>32
  | .fieldAddr _ _ _=>34
  | .field _ _ _=>36
  | .indexAddr _ _ _=>38
  | .index _ _ _=>40
  | .extract _ _=>42
  | .makeFunc _ _ _=>56
  | .binOp b _ _ y _=>(match y with
    | .const (.slice _ _ _)=>90
    | _=>match b with
      | .add | .sub | .mul | .quo=>22
      | _=>20)
  | .call c=>(match c.callee with
    | .builtin .len=>44
    | .builtin .append=>46
    | .builtin .max=>48
    | .builtin .min=>50
    | .builtin .copy=>52
    | .builtin .clear=>54
    | _=>60)
  | _=>90)+(match o.guard with
  | none=>0
  | _=>1)
theorem opIs {P:Program} {L:Lend} {rg:Array Oper} {K:St→Prop} {o:Oper} {rest:List Oper} {s:St} (n:Nat) (hn:opNo o=n) (h:aOps P L rg K (o::rest) s):aOps P L rg K (o::rest) s:=h
structure Ks (ks:List Nat):Prop where
  t:True
theorem v_seqK {P:Program} {L:Lend} {m:Nat} {Q:AEx→St→Prop} {s:St} {id:Nat} {ops:Array Oper} {y:Code} {ks:List Nat} (_:Ks ks)
    (h:∀K:St→Prop,(∀s,awp P L m y Q (s.keep ks)→K s)→aOps P L ops K ops.toList s):awp P L m (.seq (.region id ops false) y) Q s:=v_seqR ks h
theorem rA {R:St→Prop} {Q:AEx→St→Prop} {x:AEx} {s:St} (h:∀s,R s→Q x s) (g:R s):Q x s:=h s g
theorem eA {R:Nat→St→Prop} {Q:AEx→St→Prop} {i:Nat} {s:St} (h:∀i s,R i s→Q (.exit i) s) (g:R i s):Q (.exit i) s:=h i s g
theorem eB {R:Nat→St→Prop} {Q:AEx→St→Prop} {i j:Nat} {s:St} (h:∀i s,i≠j→R i s→Q (.exit i) s) (hi:i≠j) (g:R i s):Q (.exit i) s:=h i s hi g
theorem nA {m:Nat} {ks:List Nat} {A:St→Prop} {Q:AEx→St→Prop} {s:St} (_:Ks ks) (h:∀s s1,Weak m s s1→A s1→Q .normal s) (g:A (s.keep ks)):Q .normal s:=h _ _ (weak_keep ks s) g
theorem zz {A B:Prop} (b:Ho B) (e:Ho B→A:=by
  intro b;repeat (first
    | (refine opIs 0 rfl ?_;refine zMove ⟨?_⟩)
    | (refine opIs 14 rfl ?_;refine zLoad ⟨?_⟩)
    | (refine opIs 20 rfl ?_;refine zBinOp ⟨?_⟩)
    | (refine opIs 2 rfl ?_;refine zAssign ⟨?_⟩)
    | (refine opIs 34 rfl ?_;refine zFieldAddr ⟨?_⟩)
    | (refine opIs 38 rfl ?_;refine zIndexAddr ⟨?_⟩)
    | (refine opIs 16 rfl ?_;refine zStore ⟨?_⟩)
    | (refine opIs 42 rfl ?_;refine zExtract ⟨?_⟩)
    | (refine opIs 44 rfl ?_;refine zLen ⟨?_⟩)
    | (refine opIs 22 rfl ?_;refine zBinOpW ⟨?_⟩)
    | (refine opIs 28 rfl ?_;refine zConvert ⟨?_⟩)
    | (refine opIs 26 rfl ?_;refine zUnOp ⟨?_⟩)
    | (refine opIs 32 rfl ?_;refine zSlice ⟨?_⟩)
    | (refine opIs 6 rfl ?_;refine zAlloc ⟨?_⟩)
    | (refine opIs 8 rfl ?_;refine zBox ⟨?_⟩)
    | (refine opIs 10 rfl ?_;refine zBuild ⟨?_⟩)
    | (refine opIs 12 rfl ?_;refine zBuildSlice ⟨?_⟩)
    | (refine opIs 46 rfl ?_;refine zAppend ⟨?_⟩)
    | (refine opIs 4 rfl ?_;refine zPick ⟨?_⟩)
    | (refine opIs 18 rfl ?_;refine zNilCheck ⟨?_⟩)
    | (refine opIs 30 rfl ?_;refine zMakeSlice ⟨?_⟩)
    | (refine opIs 36 rfl ?_;refine zField ⟨?_⟩)
    | (refine opIs 40 rfl ?_;refine zIndex ⟨?_⟩)
    | (refine opIs 48 rfl ?_;refine zMax ⟨?_⟩)
    | (refine opIs 50 rfl ?_;refine zMin ⟨?_⟩)
    | (refine opIs 52 rfl ?_;refine zCopy ⟨?_⟩)
    | (refine opIs 54 rfl ?_;refine zClear ⟨?_⟩)
    | (refine opIs 56 rfl ?_;refine zMakeFunc ⟨?_⟩)
    | (refine opIs 1 rfl ?_;refine zgMove ⟨?_⟩)
    | (refine opIs 15 rfl ?_;refine zgLoad ⟨?_⟩)
    | (refine opIs 21 rfl ?_;refine zgBinOp ⟨?_⟩)
    | (refine opIs 3 rfl ?_;refine zgAssign ⟨?_⟩)
    | (refine opIs 35 rfl ?_;refine zgFieldAddr ⟨?_⟩)
    | (refine opIs 39 rfl ?_;refine zgIndexAddr ⟨?_⟩)
    | (refine opIs 17 rfl ?_;refine zgStore ⟨?_⟩)
    | (refine opIs 43 rfl ?_;refine zgExtract ⟨?_⟩)
    | (refine opIs 45 rfl ?_;refine zgLen ⟨?_⟩)
    | (refine opIs 23 rfl ?_;refine zgBinOpW ⟨?_⟩)
    | (refine opIs 29 rfl ?_;refine zgConvert ⟨?_⟩)
    | (refine opIs 27 rfl ?_;refine zgUnOp ⟨?_⟩)
    | (refine opIs 33 rfl ?_;refine zgSlice ⟨?_⟩)
    | (refine opIs 7 rfl ?_;refine zgAlloc ⟨?_⟩)
    | (refine opIs 9 rfl ?_;refine zgBox ⟨?_⟩)
    | (refine opIs 11 rfl ?_;refine zgBuild ⟨?_⟩)
    | (refine opIs 13 rfl ?_;refine zgBuildSlice ⟨?_⟩)
    | (refine opIs 47 rfl ?_;refine zgAppend ⟨?_⟩)
    | (refine opIs 5 rfl ?_;refine zgPick ⟨?_⟩)
    | (refine opIs 19 rfl ?_;refine zgNilCheck ⟨?_⟩)
    | (refine opIs 31 rfl ?_;refine zgMakeSlice ⟨?_⟩)
    | (refine opIs 37 rfl ?_;refine zgField ⟨?_⟩)
    | (refine opIs 41 rfl ?_;refine zgIndex ⟨?_⟩)
    | (refine opIs 49 rfl ?_;refine zgMax ⟨?_⟩)
    | (refine opIs 51 rfl ?_;refine zgMin ⟨?_⟩)
    | (refine opIs 53 rfl ?_;refine zgCopy ⟨?_⟩)
    | (refine opIs 55 rfl ?_;refine zgClear ⟨?_⟩)
    | (refine opIs 57 rfl ?_;refine zgMakeFunc ⟨?_⟩))
  exact b.h):A:=e b
theorem zr {A B:Prop} (b:Ho B) (e:Ho B→A:=by
  intro b;refine v_ret ?_;repeat (refine rA (by assumption) ?_)
  refine zf ⟨?_⟩;exact b.h):A:=e b
theorem zn (ks:List Nat) {A B:Prop} (b:Ho B) (e:Ks ks→Ho B→A:=by
  intro q b;first | refine v_skip ?_ | refine v_exit ?_ | skip
  repeat (first | refine rA (by assumption) ?_ | refine eA (by assumption) ?_ | refine eB (by assumption) (by decide) ?_)
  refine nA q (by assumption) ?_;simp only [keep_mk,keepE_nil,keepE_cons,look_cons,look_nil,Nat.reduceEqDiff,reduceIte];exact b.h):A:=e ⟨trivial⟩ b
theorem zx {A B:Prop} (b:Ho B) (e:Ho B→A:=by
  intro b;first | refine v_skip ?_ | refine v_exit ?_
  repeat (first | refine rA (by assumption) ?_ | refine eA (by assumption) ?_ | refine eB (by assumption) (by decide) ?_)
  exact b.h):A:=e b
theorem yR (ks:List Nat) {A B:Prop} (b:Ho B) (e:Ks ks→Ho B→A:=by
  intro q b;refine v_seqK q ?_;intro K k;refine zz ⟨?_⟩;refine k _ ?_;clear k K;simp only [keep_mk,keepE_nil,keepE_cons,look_cons,look_nil,Nat.reduceEqDiff,reduceIte];exact b.h):A:=e ⟨trivial⟩ b
theorem yQ (ks:List Nat) {A B:Prop} (b:Ho B) (e:Ks ks→Ho B→A:=by
  intro q b;refine v_region ?_;intro K k;refine zz ⟨?_⟩;refine k _ ?_;clear k K;repeat (first | refine rA (by assumption) ?_ | refine eA (by assumption) ?_ | refine eB (by assumption) (by decide) ?_)
  refine nA q (by assumption) ?_;simp only [keep_mk,keepE_nil,keepE_cons,look_cons,look_nil,Nat.reduceEqDiff,reduceIte];exact b.h):A:=e ⟨trivial⟩ b
theorem yV {A B:Prop} (b:Ho B) (e:Ho B→A:=by
  intro b;refine v_region ?_;intro K k;refine zz ⟨?_⟩;refine k _ ?_;clear k K;repeat (first | refine rA (by assumption) ?_ | refine eA (by assumption) ?_ | refine eB (by assumption) (by decide) ?_)
  exact b.h):A:=e b
theorem yRc (ks:List Nat) {C0 A B:Prop} (con0:C0) (b:Ho B) (e:Ks ks→C0→Ho B→A:=by
  intro q con0 b;refine v_seqK q ?_;intro K k;refine zz ⟨?_⟩;refine zc con0 ⟨?_⟩;refine zz ⟨?_⟩;refine k _ ?_;clear k K;simp only [keep_mk,keepE_nil,keepE_cons,look_cons,look_nil,Nat.reduceEqDiff,reduceIte];exact b.h):A:=e ⟨trivial⟩ con0 b
theorem yRg (ks:List Nat) {C0 A B:Prop} (con0:C0) (b:Ho B) (e:Ks ks→C0→Ho B→A:=by
  intro q con0 b;refine v_seqK q ?_;intro K k;refine zz ⟨?_⟩;refine zgc con0 ⟨?_⟩;refine zz ⟨?_⟩;refine k _ ?_;clear k K;simp only [keep_mk,keepE_nil,keepE_cons,look_cons,look_nil,Nat.reduceEqDiff,reduceIte];exact b.h):A:=e ⟨trivial⟩ con0 b
theorem yRcg (ks:List Nat) {C0 C1 A B:Prop} (con0:C0) (con1:C1) (b:Ho B) (e:Ks ks→C0→C1→Ho B→A:=by
  intro q con0 con1 b;refine v_seqK q ?_;intro K k;refine zz ⟨?_⟩;refine zc con0 ⟨?_⟩;refine zz ⟨?_⟩;refine zgc con1 ⟨?_⟩;refine zz ⟨?_⟩;refine k _ ?_;clear k K;simp only [keep_mk,keepE_nil,keepE_cons,look_cons,look_nil,Nat.reduceEqDiff,reduceIte];exact b.h):A:=e ⟨trivial⟩ con0 con1 b
theorem yQc (ks:List Nat) {C0 A B:Prop} (con0:C0) (b:Ho B) (e:Ks ks→C0→Ho B→A:=by
  intro q con0 b;refine v_region ?_;intro K k;refine zz ⟨?_⟩;refine zc con0 ⟨?_⟩;refine zz ⟨?_⟩;refine k _ ?_;clear k K;repeat (first | refine rA (by assumption) ?_ | refine eA (by assumption) ?_ | refine eB (by assumption) (by decide) ?_)
  refine nA q (by assumption) ?_;simp only [keep_mk,keepE_nil,keepE_cons,look_cons,look_nil,Nat.reduceEqDiff,reduceIte];exact b.h):A:=e ⟨trivial⟩ con0 b
theorem yVc {C0 A B:Prop} (con0:C0) (b:Ho B) (e:C0→Ho B→A:=by
  intro con0 b;refine v_region ?_;intro K k;refine zz ⟨?_⟩;refine zc con0 ⟨?_⟩;refine zz ⟨?_⟩;refine k _ ?_;clear k K;repeat (first | refine rA (by assumption) ?_ | refine eA (by assumption) ?_ | refine eB (by assumption) (by decide) ?_)
  exact b.h):A:=e con0 b
theorem yVcc {C0 C1 A B:Prop} (con0:C0) (con1:C1) (b:Ho B) (e:C0→C1→Ho B→A:=by
  intro con0 con1 b;refine v_region ?_;intro K k;refine zz ⟨?_⟩;refine zc con0 ⟨?_⟩;refine zz ⟨?_⟩;refine zc con1 ⟨?_⟩;refine zz ⟨?_⟩;refine k _ ?_;clear k K;repeat (first | refine rA (by assumption) ?_ | refine eA (by assumption) ?_ | refine eB (by assumption) (by decide) ?_)
  exact b.h):A:=e con0 con1 b
end Go.Vm
namespace Go.Vm
open Go
def KeepO (O O':List Blk):Prop:=∀(id:Nat) (b:Blk),id≠0→O[id]? =some b→O'[id]? =some b
theorem KeepO.refl (O:List Blk):KeepO O O:=fun _ _ _ h=>h
theorem KeepO.app {O new:List Blk}:KeepO O (O++new):=fun id b _ h=>Grow.app O new id b h
abbrev TyG:=List Blk→(Nat→V)→Prop
def TyOK (T:TyG) (dl:List Nat):Prop:=∀O O' g g',KeepO O O'→(∀x∈dl,g' x=g x)→T O g→T O' g'
def aftOf (rg:Array Oper) (j:Nat):List Nat:=match rg[j]? with
  | some o=>(o.after.toList.filter fun e=>Go.Region.binds .any e).map (·.on)
  | none=>[]
def PostO (cv:Int→Int→Blk) (n:Nat) (env:List (Nat×V)) (mask:Nat) (O:List Blk) (a cm:Int) (d:Option Nat) (T:TyG) (t':St):Prop:=
  ∃v O' a' s',t'=(⟨env,O',false,n,mask⟩:St).set d v∧KeepO O O'∧O'[0]? =some (cv a' s')∧a≤a'∧a'≤a+cm∧T O' t'.get
def OpOK (P:Program) (L:Lend) (rg:Array Oper) (cv:Int→Int→Blk) (n:Nat) (a0 cm:Int) (T0:TyG) (Ts:Nat→TyG) (i:Nat) (o:Oper):Prop:=
  ∀ env O mask a s,O[0]? =some (cv a s)→(a0≤a∧a≤a0+cm * rg.size)→T0 O (fun x=>look x env)→(∀j∈aftOf rg i,Ts j O (fun x=>look x env))→
    ∀K':St→Prop,(∀s,PostO cv n env mask O a cm o.dst (Ts i) s→K' s)→aStep P L rg o ⟨env,O,false,n,mask⟩ K'
section
variable {P:Program} {L:Lend} {rg:Array Oper} {K:St→Prop}
end
end Go.Vm
namespace Go.Vm
open Go
def tYes:TyG:=fun _ _=>True
def TyOKs:List TyG→List (List Nat)→Prop
  | T::l,d::ds=>TyOK T d∧TyOKs l ds
  | [],[]=>True
  | _,_=>False
theorem TyOKs.get:∀{l:List TyG} {ds:List (List Nat)},TyOKs l ds→∀j,j < l.length→TyOK (l.getD j tYes) (ds.getD j [])∧j < ds.length
  | T::l,d::ds,h,0,_=>⟨h.1,by simp⟩
  | T::l,d::ds,h,j+1,hj=>by
    have:=TyOKs.get h.2 j (by simpa using hj);exact ⟨this.1,by simpa using this.2⟩
  | [],[],_,j,hj=>by simp at hj
  | [],_::_,h,_,_=>h.elim
  | _::_,[],h,_,_=>h.elim
section
variable {P:Program} {L:Lend} {rg:Array Oper} {K:St→Prop} {cv:Int→Int→Blk} {n:Nat} {a0 cm:Int} {T0:TyG} {TL:List TyG}
def OpsOK (P:Program) (L:Lend) (rg:Array Oper) (cv:Int→Int→Blk) (n:Nat) (a0 cm:Int) (T0:TyG) (TL:List TyG):List Nat→Prop
  | []=>True
  | i::l=>(∀o,rg[i]? =some o→OpOK P L rg cv n a0 cm T0 (fun j=>TL.getD j tYes) i o)∧OpsOK P L rg cv n a0 cm T0 TL l
theorem OpsOK.get:∀{l:List Nat},OpsOK P L rg cv n a0 cm T0 TL l→∀i∈l,∀o,rg[i]? =some o→OpOK P L rg cv n a0 cm T0 (fun j=>TL.getD j tYes) i o
  | x::l,h,i,hi,o,ho=>by
    rcases ql4.1 hi with rfl | hi
    · exact h.1 o ho
    · exact h.2.get i hi o ho
end
def BkAll (ρ:Nat→Nat) (O:List Blk):List Nat→List Blk→Prop
  | i::is,b::bs=>O[i]? =some (b.renM ρ)∧BkAll ρ O is bs
  | [],[]=>True
  | _,_=>False
theorem BkAll.get {ρ:Nat→Nat} {O:List Blk}:∀{is:List Nat} {bs:List Blk},BkAll ρ O is bs→∀j b,bs[j]? =some b→O[is.getD j 0]? =some (b.renM ρ)
  | i::is,b::bs,h,0,c,e=>by simp at e;subst e;exact h.1
  | i::is,b::bs,h,j+1,c,e=>by
    have:=BkAll.get h.2 j c (by simpa using e);simpa using this
  | [],[],_,j,c,e=>by simp at e
  | _::_,[],h,_,_,_=>h.elim
  | [],_::_,h,_,_,_=>h.elim
end Go.Vm
namespace Go.Vm
open Go
end Go.Vm
namespace Go.Vm
open Go
end Go.Vm
namespace Go.Vm
open Go
section
variable {w:World} {μ:Nat→Option Loc}
end
section
variable {P:Program} {L:Lend} {s:St}
end
end Go.Vm
namespace Go.Vm
open Go
theorem zPs {A B:Prop} (b:Ho B) (e:Ho B→A:=by
  intro b;refine v_passB rfl rfl rfl ?_ ?_
  · first | rfl | (simp only [zV,guardV,Nat.reduceEqDiff,reduceIte];done)
  simp only [zW,set_some,Nat.reduceEqDiff,reduceIte];exact b.h):A:=e b
end Go.Vm
