/- The value machine, part 7. -/
import Derived.Sort.Grow
import Derived.Lib.LaidTab
import Derived.Lib.Join
import Derived.Below
import Derived.Deep.Draws
import Derived.Test.YtmhaafinhpopmaaGreatDoorUmF
set_option linter.unusedSimpArgs false
set_option linter.unusedVariables false
set_option linter.defProp false
namespace Go.Vm
open Go
section
variable {α:Type} {f:α→V}
def rowV (N:Nat) (l:List α):V:=if l.isEmpty then .sl [] else .ref N
def rowB (f:α→V) (l:List α):Blk:=if l.isEmpty then .dead else .arr (l.map f) .flat
def posOf (b:Nat):List (Option Loc)→Option Nat
  | []=>none
  | o::l=>if o.map Loc.b=some b then some 0 else (posOf b l).map (·+1)
theorem posOf_some {b:Nat}:∀{l:List (Option Loc)} {i:Nat},posOf b l=some i→∃loc,l[i]? =some (some loc)∧loc.b=b
  | [],_,h=>by cases h
  | o ::l,i,h=>by
    rw [posOf] at h;split at h
    · rename_i e
      cases h
      simp_all
    · rw [Option.map_eq_some_iff] at h
      obtain ⟨j,h1,h2⟩:=h;subst h2;obtain ⟨loc,q1,q2⟩:=posOf_some h1
      grind
theorem posOf_get:∀{l:List (Option Loc)} {i:Nat} {loc:Loc},(l.filterMap (Option.map Loc.b)).Nodup→l[i]? =some (some loc)→posOf loc.b l=some i
  | [],_,_,_,h=>by grind
  | o::l,0,loc,_,h=>by
    simp at h;subst h;rw [posOf];simp
  | o ::l,i+1,loc,hn,h=>by
    have h':l[i]? =some (some loc):=by grind
    have hmem:loc.b∈l.filterMap (Option.map Loc.b):=List.mem_filterMap.2 ⟨some loc,qlb h',rfl⟩;cases o with
    | none=>
      rw [posOf,if_neg (by simp),posOf_get (by grind) h'];rfl
    | some loc0=>
      simp only [List.filterMap_cons,Option.map_some,List.nodup_cons] at hn;rw [posOf,if_neg (by grind),posOf_get hn.2 h'];rfl
theorem posOf_none {b:Nat} {l:List (Option Loc)} (h:b ∉ l.filterMap (Option.map Loc.b)):posOf b l=none:=by
  cases e:posOf b l with
  | none=>rfl
  | some i=>
    obtain ⟨loc,h1,h2⟩:=posOf_some e;exact absurd (List.mem_filterMap.2 ⟨some loc,qlb h1,by grind⟩) h
end
end Go.Vm
namespace Go.Vm
open Go
theorem con_str2 {P:Program} {f:FuncId} {a b:ByteArray} {r:V} {rv:Value} (hf:∃fn,P.funcs[f]? =some fn∧(fn.name == "runtime.NumGoroutine")=false∧fn.body.isNone=false) (hr:∀w μ,Rep w μ r rv [])
    (h:∀w,Calls P f #[.string a,.string b] w fun e w'=>e=.returned rv∧w'=w):Con P f [.str a,.str b] [] r []:=by
  refine ⟨hf,fun w vals μ ow vis hi=> ?_⟩;have h0:vals.getD 0 undef=.string a:=by
    obtain ⟨bl,r0,_⟩:=hi.arg 0 _ rfl;generalize vals.getD 0 undef=x at r0⊢;cases r0;rfl
  have h1:vals.getD 1 undef=.string b:=by
    obtain ⟨bl,r0,_⟩:=hi.arg 1 _ rfl;generalize vals.getD 1 undef=x at r0⊢;cases r0;rfl
  have hs:vals.size=2:=hi.sz;have hv:vals=#[.string a,.string b]:=by
    apply Array.ext
    · omega
    · intro i hi1 hi2
      have hi3:i < 2:=by omega
      have e:vals.getD i undef=vals[i]:=by simp_all
      grind
  subst hv;refine (h w).mono ?_;rintro e w' ⟨rfl,rfl⟩;exact ⟨rv,μ,ow,rfl,⟨⟨[],hr _ _,by simp⟩,by simp,by simp,MLe.refl _,qlz _,hi.dom,hi.owl,fun b hb=>.inl hb,⟨qlz _,fun _ _ _=>rfl,rfl,rfl,rfl,fun _ _=>rfl,fun _ hp=>nomatch hp⟩⟩⟩
end Go.Vm
namespace Go.Vm
open Go
end Go.Vm
namespace Go.Vm
open Go
theorem fillK_thin (i:Nat):(fillK i≠.thin)=True:=by grind[fillK]
theorem weak_thin {m:Nat} {s:St} (id:Nat) (xs:List V) (hO:s.O[id]? =some (.arr xs .flat)):Weak m s {s with O:=s.O.set id (.arr xs .thin)}:=by
  intro cx a w μ ow hmu h;have hlid:id < s.O.length:=by
    grind
  refine ⟨μ,ow,h.mut (O':=s.O.set id (.arr xs .thin)) (fun _=>False) (MLe.refl μ) (fun j hj=>h.dom j (by grind)) (qlz _) (fun _ _ _=>rfl) rfl rfl rfl (fun _ _=>rfl)
    (fun _ _ e=>e) (fun b j e=>.inr ⟨j,e⟩) (fun j bk e=> ?_) h.owl (fun b hb=>.inl hb)⟩
  by_cases hj:j=id
  · subst hj
    rw [qlm hlid] at e;simp only [Option.some.injEq] at e;subst e;right;obtain ⟨l,q1,q2,q3⟩:=h.blk j _ hO;refine ⟨l,q1,q2,?_⟩;rcases q3 with q3 | ⟨q3,q4,bl,q5,q6,q7⟩
    · grind
    · exact .inr ⟨q3,q4,bl,q5,q6,fun q=>absurd rfl q⟩
  grind
theorem weak_view {m:Nat} {s:St}:Weak m s {s with vw:=true}:=fun cx a w μ ow hmu h=>
  ⟨μ,ow,⟨h.dfr,h.sz,fun t=>by
    obtain ⟨bl,r1,r2⟩:=h.env t;exact ⟨bl,r1,fun b hb=>(r2 b hb).mono rfl (fun _=>rfl)⟩,fun id bk e=>(h.blk id bk e).keep (MLe.refl μ) (fun _=>rfl) (fun b _ _=>⟨rfl,rfl⟩),h.dom,h.owl,h.own,h.frm,h.mu⟩⟩
def atSlot (t:Nat) (v:V) (l:List (Nat×V)):List (Nat×V):=l.map fun p=>if p.1=t then (p.1,v) else p
theorem look_atSlot (t:Nat) (v:V):∀(l:List (Nat×V)) (k:Nat),(look t l≠.any∨k≠t)→look k (atSlot t v l)=if k=t then v else look k l
  | [],k,h=>by
    rcases h with h | h
    · exact absurd rfl h
    · simp [atSlot,look,h]
  | (j, x)::l,k,h=>by
    show look k ((if j=t then (j,v) else (j,x))::atSlot t v l)=_
    by_cases hj:j=t
    · subst hj
      rw [if_pos rfl,look_cons,look_cons]
      by_cases hk:k=j
      · grind
      · rw [if_neg hk,if_neg hk,if_neg hk,look_atSlot j v l k (.inr hk),if_neg hk]
    · rw [if_neg hj,look_cons,look_cons]
      by_cases hk:k=j
      · grind
      · rw [if_neg hk,if_neg hk]
        refine look_atSlot t v l k ?_;rcases h with h | h
        · rw [look_cons] at h
          grind
        omega
theorem atSlot_cons (t k:Nat) (v x:V) (l:List (Nat×V)):atSlot t v ((k,x)::l)=(if k=t then (k,v) else (k,x))::atSlot t v l:=rfl
theorem atSlot_nil (t:Nat) (v:V):atSlot t v []=[]:=rfl
theorem weak_whole {m:Nat} {s:St} (id t:Nat) (xs:List V) (k:Kd) (hO:s.O[id]? =some (.arr xs k)) (ht:s.get t=.ref id):Weak m s {s with env:=atSlot t (.sub id 0 xs.length) s.env}:=by
  intro cx a w μ ow hmu h;refine ⟨μ,ow,h.dfr,h.sz,fun k'=> ?_,h.blk,h.dom,h.owl,h.own,h.frm,h.mu⟩;show ∃bl,Rep w μ (look k' (atSlot t (.sub id 0 xs.length) s.env)) _ bl∧_;have hne:look t s.env≠.any:=by
    have:look t s.env=.ref id:=ht
    grind
  rw [look_atSlot t _ s.env k' (.inl hne)]
  by_cases hkt:k'=t
  · subst hkt
    rw [if_pos rfl];obtain ⟨bl,r1,_⟩:=h.env k';rw [ht] at r1;obtain ⟨l,q1,q2,q3⟩:=h.blk id _ hO;refine ⟨[],?_,by simp⟩;generalize a.tmps.getD k' undef=x at r1;cases r1 with
    | ref _ l2 _ hl hd=>
      rw [hl] at q1;obtain rfl:=Option.some.inj q1;cases hd with
      | real hr=>
        have:=Rep.sub (w:=w) (μ:=μ) id 0 xs.length l2 hl hr (by omega)
        grind
      | nil q hf h0=>
        have:xs.length=0:=by omega
        rw [this];exact .sub0 id 0 l2 q hl (qld _)
  · rw [if_neg hkt]
    exact h.env k'
theorem ret_refK {s:St} {k:Nat} {xs ys:List V} {kd:Kd} (hO:s.O[k]? =some (.arr xs kd)) (hk:(kd != .shal && kd.nm)=true) (e:xs=ys):RetOK 0 s (.ref k) (.ref 0) [.arr ys kd]:=by
  subst e;have hf:(refsOf (.ref k)).filter (fun id=>Nat.ble 0 id)=[k]:=by rfl
  unfold RetOK;simp only [hf];simp only [Bool.and_eq_true] at hk;refine ⟨⟨by simp [V.only,idx],by simp,qld _⟩,by simp [V.ren,outNo,idx],by grind,?_,.inr ⟨by rfl,?_⟩⟩
  · intro bk hb
    rw [List.mem_singleton] at hb;subst hb;exact hk.2
  · intro bk hb
    rw [List.mem_singleton] at hb;subst hb;show (kd != .shal && kd.nm)=true
    grind
theorem ret_gen {s:St} {v r:V} {O':List Blk} (ids:List Nat) (h1:refsOf v=ids) (h2:v.only (fun id=>(idx ids id).isSome)=true) (h3:ids.Nodup)
    (h4:v.ren (fun id=>(idx ids id).getD 0)=r) (h5:(ids.map fun id=>s.O.getD id .dead)=O') (h6:∀bk∈O',bk.kindIs (fun k=>k != .shal && k.nm)=true) (h7:v.clean=true):RetOK 0 s v r O':=by
  subst h4 h5;have hf:(refsOf v).filter (fun id=>Nat.ble 0 id)=ids:=by rw [h1];exact List.filter_eq_self.2 fun _ _=>rfl
  have ho:outNo 0 ids=fun id=>(idx ids id).getD 0:=by
    funext id
    simp [outNo]
  unfold RetOK;simp only [hf,ho];refine ⟨⟨only_mono (fun id h=>by simpa using h) h2,h3,qld _⟩,trivial,by simp,fun bk hb=> ?_,.inr ⟨h7,h6⟩⟩;have:=h6 bk hb;cases bk with
  | dead=>simp [Blk.kindIs] at this⊢
  | hid j' n'=>simp [Blk.kindIs] at this
  | arr xs k=>cases k<;>simp_all [Blk.kindIs,Kd.nm]
  | box x k=>cases k<;>simp_all [Blk.kindIs,Kd.nm]
theorem Con.thin {P:Program} {f:FuncId} {args:List V} {r:V} {xs:List V} (h:Con P f args [] r [.arr xs .flat]):Con P f args [] r [.arr xs .thin]:=by
  refine ⟨h.1,fun w vals μ ow vis hi=>(h.2 w vals μ ow vis hi).mono ?_⟩;rintro e w' ⟨v,μ',ow',he,hout⟩;refine ⟨v,μ',ow',he,hout.rep,fun id bk hb=> ?_,?_,hout.same,hout.len,hout.dom,hout.owl,hout.own,hout.frm⟩
  · cases id with
    | zero=>
      simp only [List.getElem?_cons_zero,Option.some.injEq] at hb;subst hb;obtain ⟨l,q1,q2,q3⟩:=hout.blk 0 (.arr xs .flat) rfl;refine ⟨l,q1,q2,?_⟩;rcases q3 with q3 | ⟨q3,q4,bl,q5,q6,q7⟩
      · grind
      · exact .inr ⟨q3,q4,bl,q5,q6,fun q=>absurd rfl q⟩
    | succ n=>grind
  · intro bk hb
    rw [List.mem_singleton] at hb;subst hb;rfl
theorem join_t:kdJoin .thin false false=some .thin:=rfl
theorem thin_mix:Kd.thin.nm=true:=rfl
theorem shal_mix:Kd.shal.nm=true:=rfl
theorem nil_eql:(BinOp.eql == BinOp.neq)=false:=rfl
theorem nil_neq:(BinOp.neq == BinOp.neq)=true:=rfl
structure Caps (caps:List V):Prop where
  cc:∀s ls,toCells s ls caps=some caps
  ca:∀s,toArgs s [] caps=some caps
  cn:∀p,V.onlyL p caps=true
  cr:∀ρ,V.renL ρ caps=caps
theorem Caps.nil:Caps []:=⟨fun _ _=>rfl,fun _=>rfl,fun _=>by rfl,fun _=>rfl⟩
theorem Caps.pv {caps:List V} (xs:List V) (h:Caps caps):Caps (.pv xs 0 0::caps):=
  ⟨fun s ls=>by simp [toCells,toCell,h.cc],fun s=>by simp [toArgs,toArg,toCell,h.ca],fun p=>by simp [V.onlyL,V.only,h.cn],fun ρ=>by simp [V.renL,V.ren,h.cr]⟩
theorem rho_one (id n:Nat):rho [id] n 0=id:=rfl
theorem beq_dec (m n:Nat):Nat.beq m n=decide (m=n):=by
  grind[Nat.beq,decide_eq_true,Nat.eq_of_beq_eq_true,decide_eq_false,Nat.beq_refl]
end Go.Vm
namespace Go.Vm
open Go
def SameShape (bk bk':Blk) (xs xs':List V) (k k':Kd):Prop:=
  (bk=.arr xs k∧bk'=.arr xs' k')∨(∃x x',bk=.box x k∧bk'=.box x' k'∧xs=[x]∧xs'=[x'])
theorem SameShape.ok {bk bk':Blk} {xs xs':List V} {k k':Kd} (h:SameShape bk bk' xs xs' k k') {cx:Cx} {w:World} {μ:Nat→Option Loc} {ow:Ow} {vw:Bool} {id:Nat} (hb:BlkOK cx w μ ow vw id bk):RowOK cx w μ ow vw id xs k:=by
  rcases h with ⟨rfl,_⟩ | ⟨x,x',rfl,_,rfl,_⟩<;>exact hb
theorem SameShape.ok' {bk bk':Blk} {xs xs':List V} {k k':Kd} (h:SameShape bk bk' xs xs' k k') {cx:Cx} {w:World} {μ:Nat→Option Loc} {ow:Ow} {vw:Bool} {id:Nat} (hb:RowOK cx w μ ow vw id xs' k'):BlkOK cx w μ ow vw id bk':=by
  rcases h with ⟨_,rfl⟩ | ⟨x,x',_,rfl,_,rfl⟩<;>exact hb
theorem weak_out {m:Nat} {s:St} (id:Nat) (bk bk':Blk) (xs xs' ys pre post:List V) (k kd:Kd) (hO:s.O[id]? =some bk) (hbk:SameShape bk bk' xs xs' k .part) (hk:k=.deep∨k=.part)
    (hc:xs.flatMap V.cells=pre++.sl ys::post) (hc':xs'.flatMap V.cells=pre++.ref s.O.length::post) (hlen:xs'.length=xs.length)
    (hsz:∀n,(∀x∈xs,x.cells.length=n)→∀x∈xs',x.cells.length=n) (hy:ys≠[]) (hkd:kd=.deep∨(kd=.flat∧ys.all V.noSl=true)) (hv:s.vw=false) :
    Weak m s {s with O:=s.O.set id bk'++[.arr ys kd]}:=by
  intro cx a w μ ow hmu h;have hid:id < s.O.length:=(qlc.1 hO).1;obtain ⟨l,hl1,hl2,hl3⟩:=hbk.ok (h.blk id _ hO);have hxne:xs≠[]:=by grind
  rcases hl3 with ⟨_,q2⟩ | ⟨q1,q2,bl,q3,q4,q5⟩
  · grind
  have hown:bl.Nodup∧∀b∈bl,ow b=some (false,id):=by rcases hk with e | e<;>subst e<;>exact q4
  obtain ⟨c1,c2,c3,c,t,vs,c4,c5,c6,c7,c8⟩:=q3;rw [hc] at c6;obtain ⟨x1,x23,b1,b23,ev1,eb1,r1,r23⟩:=RepL.split pre (.sl ys::post) c6;cases r23 with
  | cons _ x bx _ x3 b3 hx r3=>
    cases hx with
    | sl0=>grind
    | sl _ b off cc sz vs' bl2 h0 hcap hs hz hl' k1 hr=>
      have hbo:ow b=some (false,id):=hown.2 b (by grind);obtain ⟨cs,tt,hh⟩:=h.owl b (by rw [hbo];simp);let loc:Loc:=⟨b,off,sz,ys.length,cc,true⟩;have hcells:Cells w M0 loc ys bl2:=by
        refine ⟨hcap.1,hs,hz,cs,tt,vs',hh,?_,hl',k1,fun j y hj=> ?_⟩
        · obtain ⟨cs2,t2,fr2,e2,e3⟩:=hcap.2
          grind
        · have:=hr j y hj
          grind[cell_of_row]
      let N:=s.O.length;let ow':Ow:=fun y=>if y=b then some (true,N) else if y∈bl2 then some (false,N) else ow y
      let μ':Nat→Option Loc:=fun j=>if j=N then some loc else μ j
      have hnd:=hown.1;rw [eb1] at hnd;obtain ⟨hn1,hn23,hn1x⟩:=List.nodup_append.1 hnd;obtain ⟨hnb,hn3,hnbx⟩:=List.nodup_append.1 hn23;obtain ⟨hnb2,hn2⟩:=List.nodup_cons.1 hnb;have hm:MLe μ μ':=by
        intro j lc e;have:j≠N:=fun q=>by rw [q,h.dom N (qlz _)] at e;cases e
        grind
      have howB:∀y,y∈b::bl2→ow y=some (false,id):=fun y hy=>hown.2 y (by grind)
      have hsame:∀y,y ∉ b::bl2→ow' y=ow y:=by
        grind
      have hsame':∀y,ow y≠some (false,id)→ow' y=ow y:=fun y hy=>hsame y fun q=>hy (howB y q)
      have hne:∀y,ow' y≠none→ow y≠none:=by
        grind
      have hvok:∀y,VOK cx ow s.vw y→VOK cx ow' s.vw y:=by
        intro y hb;rw [hv] at hb⊢;have h0:ow y=none:=hb.1.resolve_right (by simp);exact ⟨.inl (by rw [hsame' y (by rw [h0];simp)];exact h0),hb.2⟩
      have hbne:∀y∈b1++b3,y ∉ b::bl2:=by
        grind
      refine ⟨μ',ow',h.dfr,h.sz,fun t=> ?_,fun j bk2 e=> ?_,fun j hj=> ?_,fun y hy=>h.owl y (hne y hy),fun y hy=>h.own y (hne y hy),h.frm,h.mu.trans hm⟩
      · obtain ⟨bt,g1,g2⟩:=h.env t
        exact ⟨bt,g1.keep hm fun _ _=>rfl,fun y hy=>hvok y (g2 y hy)⟩
      · rcases qlt j N with hj | hj
        · rw [qlu (by grind)] at e
          by_cases hji:j=id
          · subst hji
            rw [qlm hid] at e;simp only [Option.some.injEq] at e;subst e;refine hbk.ok' ⟨l,hm _ _ hl1,by omega,.inr ⟨q1,?_,b1++b3,⟨by omega,c2,hsz _ c3,c,t,vs,c4,c5,?_,c7,c8⟩,⟨?_,?_⟩,fun _=> ?_⟩⟩
            · grind
            · rw [hc',ev1]
              have hkm:MLe (k.mu μ) μ':=(k.mu_le μ).trans hm;have hN:μ' N=some loc:=by simp [μ']
              have rr:Rep w μ' (.ref N) (.slice (some ⟨b,off,none⟩) ys.length cc) []:=.ref N loc _ hN (Hd.real (l:=loc) rfl);exact (r1.keep hkm fun _ _=>rfl).append (RepL.cons _ _ _ _ _ _ rr (r3.keep hkm fun _ _=>rfl))
            · grind
            · grind
            grind
          · rw [List.getElem?_set_ne (fun q=>hji q.symm)] at e
            refine (h.blk j bk2 e).keep hm (fun q=>q) fun y hyl hcc=>⟨rfl,hsame' y ?_⟩
            rcases hcc with q | q | q
            · rw [q];simp
            · rw [q];simp;exact hji
            · rw [hv] at q
              rw [q.1.resolve_right (by simp)];simp
        · rw [qlj (by rw [qlh];exact hj),qlh] at e
          have hjN:j=N:=by
            grind
          subst hjN;rw [Nat.sub_self,List.getElem?_cons_zero,Option.some.injEq] at e;subst e;have hmu0:kd.mu μ'=M0:=by rcases hkd with q | ⟨q,_⟩<;>subst q<;>rfl
          refine ⟨loc,by simp [μ',N],rfl,.inr ⟨rfl,by grind,bl2,by grind,?_,fun _=>hy⟩⟩;rcases hkd with q | ⟨q,hns⟩
          · subst q
            refine ⟨hn2,fun y hy2=> ?_⟩
            grind
          · subst q
            exact noSl_all hl' hns
      · have hj':N+1≤j:=by simpa [N] using hj
        have h1:j≠N:=by omega
        simp only [μ',h1,if_false];exact h.dom j (by show s.O.length≤j;omega)
theorem VOK.move {cx:Cx} {ow:Ow} {vw:Bool} {ids:List Nat} {id b:Nat} (h:VOK cx ow vw b):VOK cx (moveOw ow ids id) vw b:=
  ⟨h.1.imp moveOw_none fun ⟨q,_,e⟩=>⟨q,moveOw_false e⟩,h.2⟩
def WeakS (s s':St):Prop:=∀(cx:Cx) (a:Act) (w:World) (μ:Nat→Option Loc) (ow:Ow),Rel cx s a w μ ow→∃ow',Rel cx s' a w μ ow'∧∀b,VOK cx ow s.vw b→VOK cx ow' s.vw b
theorem WeakS.weak {m:Nat} {s s':St} (h:WeakS s s'):Weak m s s':=fun cx a w μ ow _ hr=>let ⟨ow',q,_⟩:=h cx a w μ ow hr;⟨μ,ow',q⟩
theorem weakS_kind {s:St} (id:Nat) (bk bk':Blk) (xs:List V) (k k':Kd) (hO:s.O[id]? =some bk) (hbk:SameShape bk bk' xs xs k k')
    (hk:∀(cx:Cx) (w:World) (μ:Nat→Option Loc) (ow:Ow) (bl:List Nat) (vs:List Value),RepL w (k.mu μ) (xs.flatMap V.cells) vs bl→KdOK cx ow s.vw id bl k→RepL w (k'.mu μ) (xs.flatMap V.cells) vs bl∧KdOK cx ow s.vw id bl k') (ht:k≠.thin∨k'=.thin) :
    WeakS s {s with O:=s.O.set id bk'}:=by
  intro cx a w μ ow h;have hid:id < s.O.length:=(qlc.1 hO).1;obtain ⟨l,hl1,hl2,hl3⟩:=hbk.ok (h.blk id _ hO);refine ⟨ow,⟨h.dfr,h.sz,h.env,fun i bk2 e=> ?_,fun i hi=>h.dom i (by grind),h.owl,h.own,h.frm,h.mu⟩,fun _ q=>q⟩
  by_cases hii:i=id
  · subst hii
    rw [qlm hid] at e;simp only [Option.some.injEq] at e;subst e;refine hbk.ok' ⟨l,hl1,hl2,?_⟩;rcases hl3 with q | ⟨q1,q2,bl,⟨c1,c2,c3,c,t,vs,c4,c5,c6,c7,c8⟩,q4,q5⟩
    · grind
    · obtain ⟨g1,g2⟩:=hk cx w μ ow bl vs c6 q4
      exact .inr ⟨q1,q2,bl,⟨c1,c2,c3,c,t,vs,c4,c5,g1,c7,c8⟩,g2,fun hne=>q5 (by grind)⟩
  · rw [List.getElem?_set_ne (fun q=>hii q.symm)] at e
    exact h.blk i bk2 e
theorem weak_kind {m:Nat} {s:St} (id:Nat) (bk bk':Blk) (xs:List V) (k k':Kd) (hO:s.O[id]? =some bk) (hbk:SameShape bk bk' xs xs k k')
    (hk:∀(cx:Cx) (w:World) (μ:Nat→Option Loc) (ow:Ow) (bl:List Nat) (vs:List Value),RepL w (k.mu μ) (xs.flatMap V.cells) vs bl→KdOK cx ow s.vw id bl k→RepL w (k'.mu μ) (xs.flatMap V.cells) vs bl∧KdOK cx ow s.vw id bl k') (ht:k≠.thin∨k'=.thin) :
    Weak m s {s with O:=s.O.set id bk'}:=
  (weakS_kind id bk bk' xs k k' hO hbk hk ht).weak
theorem weak_dp {m:Nat} {s:St} (id:Nat) (bk bk':Blk) (xs:List V) (hO:s.O[id]? =some bk) (hbk:SameShape bk bk' xs xs .part .deep) (hn:xs.all V.noRef=true):Weak m s {s with O:=s.O.set id bk'}:=
  weak_kind id bk bk' xs .part .deep hO hbk (fun cx w μ ow bl vs h1 h2=>⟨noRef_all h1 hn,h2⟩) (.inl (by simp))
theorem weak_fd {m:Nat} {s:St} (id:Nat) (xs:List V) (hO:s.O[id]? =some (.arr xs .flat)):Weak m s {s with O:=s.O.set id (.arr xs .deep)}:=
  weak_kind id _ _ xs .flat .deep hO (.inl ⟨rfl,rfl⟩) (fun cx w μ ow bl vs h1 h2=>⟨h1,by
    have:bl=[]:=h2;subst this;exact ⟨by simp,by simp⟩⟩) (.inl (by simp))
theorem weak_fk {m:Nat} {s:St} (id n:Nat) (xs:List V) (hO:s.O[id]? =some (.arr xs (fillK n))):Weak m s {s with O:=s.O.set id (.arr xs .deep)}:=by
  grind[fillK_or,weak_fd,St.O_same,weak_refl]
def Wk (c c':V):Prop:=c'=c∨(c=.nsl∧c'=.sl [])∨c'=.any
def WkL:List V→List V→Prop
  | [],[]=>True
  | c::cs,c'::cs'=>Wk c c'∧WkL cs cs'
  | _,_=>False
theorem WkL.refl:∀l:List V,WkL l l
  | []=>trivial
  | _::l=>⟨.inl rfl,WkL.refl l⟩
theorem WkL.append:∀{a a' b b':List V},WkL a a'→WkL b b'→WkL (a++b) (a'++b')
  | [],[],_,_,_,h=>h
  | _::_,_::_,_,_,h,k=>⟨h.1,WkL.append h.2 k⟩
  | [],_::_,_,_,h,_=>nomatch h
  | _::_,[],_,_,h,_=>nomatch h
theorem weak_retire {m:Nat} {s:St} (id n t:Nat) (xs:List V) (k:Kd) (hm:m≤s.O.length) (hO:s.O[id]? =some (.arr xs k)) (hk:k=.flat∨k=.thin) (ht:s.get t=.sub id 0 n) :
    Weak m s {s with env:=atSlot t (.ref s.O.length) s.env,O:=s.O.set id .dead++[.arr (xs.take n) .thin]}:=by
  intro cx a w μ ow hmu h;have hid:id < s.O.length:=(qlc.1 hO).1;obtain ⟨l,hl1,hl2,hl3⟩:=h.blk id _ hO;obtain ⟨bt,hrep,hbt⟩:=h.env t;rw [ht] at hrep;let N:=s.O.length;have hk0:k.mu μ=M0:=by rcases hk with e | e<;>subst e<;>rfl
  have key:∃loc:Loc,Hd loc (a.tmps.getD t undef)∧loc.n=(xs.take n).length∧((loc.real=false∧xs.take n=[])∨(loc.real=true∧loc.b=l.b∧ow l.b=some (true,id)∧Cells w M0 loc (xs.take n) [])):=by
    generalize a.tmps.getD t undef=x at hrep;cases hrep with
    | sub0 _ _ l' ad hl hn=>
      exact ⟨nilLoc,.nil ad rfl rfl,by rfl,.inl ⟨rfl,by simp⟩⟩
    | sub _ _ _ l' hl hr hn=>
      rw [hl1] at hl;cases hl;rcases hl3 with ⟨q1,_⟩ | ⟨q1,q2,bl,q3,q4,q5⟩
      · grind
      · have hb0:bl=[]:=by rcases hk with e | e<;>subst e<;>exact q4
        subst hb0;rw [hk0] at q3;obtain ⟨c1,c2,c3,c,tt,vs,c4,c5,c6,c7,c8⟩:=q3;refine ⟨⟨l.b,l.off,l.sz,n,l.cap,true⟩,?_,?_,.inr ⟨rfl,rfl,q2,⟨?_,c2,fun y hy=>c3 y (ql2 hy),c,tt,vs.take (n * l.sz),c4,c5,?_,fun y hy=>c7 y (ql2 hy),fun j y hj=> ?_⟩⟩⟩
        · have:=Hd.real (l:=⟨l.b,l.off,l.sz,n,l.cap,true⟩) rfl
          grind
        · grind
        · grind
        · have hfl:(xs.take n).flatMap V.cells=(xs.flatMap V.cells).take (n * l.sz):=flatMap_take xs l.sz c3 n
          rw [hfl];have e:=List.take_append_drop (n * l.sz) (xs.flatMap V.cells);rw [←e] at c6;obtain ⟨x1,x2,b1,b2,e1,e2,r1,r2⟩:=RepL.split _ _ c6;have hb1:b1=[]:=by
            grind[List.append_eq_nil_iff]
          subst hb1;have hx1:x1.length=((xs.flatMap V.cells).take (n * l.sz)).length:=r1.length.symm;have hvl:=c6.length;have:vs.take (n * l.sz)=x1:=by
            rw [qln] at hx1;have hle:x1.length≤n * l.sz:=by omega
            rcases qlt x1.length (n * l.sz) with q | q
            · grind[List.length_drop,List.length_eq_zero_iff,List.take_of_length_le]
            grind
          grind
        grind
  obtain ⟨loc,z1,z2,z3⟩:=key;let ow':Ow:=fun y=>if loc.real=true∧y=loc.b then some (true,N) else ow y
  let μ':Nat→Option Loc:=fun j=>if j=N then some loc else μ j
  have hmm:MLe μ μ':=by
    intro j lc e;have:j≠N:=fun q=>by rw [q,h.dom N (qlz _)] at e;cases e
    grind
  have hsame:∀y,ow y≠some (true,id)→ow' y=ow y:=by
    grind
  have hne:∀y,ow' y≠none→ow y≠none:=by
    grind
  have hvok:∀y,VOK cx ow s.vw y→VOK cx ow' s.vw y:=fun y hy=>hy.mono (hsame y fun q=>hy.not_root q) (fun q=>q)
  have htt:look t s.env≠.any:=by
    intro e;have h2:look t s.env=.sub id 0 n:=ht
    grind
  have hslot:∀j,look j (atSlot t (.ref N) s.env)=if j=t then .ref N else look j s.env:=fun j=>look_atSlot t _ s.env j (.inl htt)
  refine ⟨μ',ow',h.dfr,h.sz,fun j=> ?_,fun j bk2 e=> ?_,fun j hj=> ?_,fun y hy=>h.owl y (hne y hy),fun y hy=>h.own y (hne y hy),h.frm,h.mu.trans hmm⟩
  · show ∃bl,Rep w μ' (look j (atSlot t (.ref N) s.env)) _ bl∧_
    rw [hslot]
    by_cases hjt:j=t
    · subst hjt
      rw [if_pos rfl];exact ⟨[],.ref N loc _ (by grind) z1,by simp⟩
    · rw [if_neg hjt]
      obtain ⟨b,g1,g2⟩:=h.env j;exact ⟨b,g1.keep hmm fun _ _=>rfl,fun y hy=>hvok y (g2 y hy)⟩
  · rcases qlt j N with hj | hj
    · rw [qlu (by grind)] at e
      by_cases hji:j=id
      · subst hji
        rw [qlm hid] at e;simp only [Option.some.injEq] at e;subst e;trivial
      · rw [List.getElem?_set_ne (fun q=>hji q.symm)] at e
        refine (h.blk j bk2 e).keep hmm (fun q=>q) fun y hyl hcc=>⟨rfl,hsame y ?_⟩
        rcases hcc with q | q | q
        · grind
        · grind
        · exact fun q2=>q.not_root q2
    · rw [qlj (by grind),qlh] at e
      have hjN:j=N:=by
        grind
      subst hjN;rw [Nat.sub_self,List.getElem?_cons_zero,Option.some.injEq] at e;subst e;refine ⟨loc,by grind,z2,?_⟩;rcases z3 with q | ⟨q1,q2,q3,q4⟩
      · grind
      · exact .inr ⟨q1,by grind,[],q4,rfl,fun q=>absurd rfl q⟩
  · have hj':N+1≤j:=by grind
    have h1:j≠N:=by omega
    simp only [μ',h1,if_false];exact h.dom j (by omega)
theorem v_conW {P:Program} {f:FuncId} {fn:Func} {c:Code} {args:List V} {O:List Blk} {r:V} {O':List Blk} (rs:List ResultVar) (L:Lend) (hf:P.funcs[f]? =some fn) (hname:(fn.name == "runtime.NumGoroutine")=false)
    (hb:fn.body=some c) (hts:fn.results=rs.toArray) (hn:args.length≤fn.ntmps) (s1:St) (hweak:Weak O.length ⟨envFrom 0 args,O,false,fn.ntmps,0⟩ s1)
    (h:∀Q:AEx→St→Prop,(∀s s2,Weak O.length s s2→(resK P s2 rs fun vs vw=>RetOK O.length {s2 with vw:=vw} (pickRV vs) r O')→Q .normal s)→(∀s s2,Weak O.length s s2→(resK P s2 rs fun vs vw=>RetOK O.length {s2 with vw:=vw} (pickRV vs) r O')→Q .ret s)→
      awp P L O.length c Q s1):Con P f args O r O':=
  ConX.con (con_of_awpW (R:=isR r O') rs L 0 hf hname hb hts hn hweak (h (fun e s=>match e with | .exit _=>False | _=>∃s2,Weak O.length s s2∧resK P s2 rs fun vs vw=>∃r' O'',isR r O' r' O''∧RetOK O.length {s2 with vw:=vw} (pickRV vs) r' O'')
    (fun s s2 hw q=>⟨s2,hw,resK_mono (fun _ _ z=>⟨r,O',⟨rfl,rfl⟩,z⟩) q⟩) (fun s s2 hw q=>⟨s2,hw,resK_mono (fun _ _ z=>⟨r,O',⟨rfl,rfl⟩,z⟩) q⟩)))
theorem v_opT {P:Program} {L:Lend} {s:St} {rg:Array Oper} {K:St→Prop} {o:Oper} {rest:List Oper} (j:Nat) (want:Bool) (hg:o.guard=some (j,want)) (hv:guardV s rg j want=some true) (hd:dstOK o.dst s.n)
    (h:∀K':St→Prop,(∀s,aOps P L rg K rest s→K' s)→aExec P L s o fun v s'=>K' (s'.set o.dst (.opt true v))):aOps P L rg K (o::rest) s:=
  .inr (.inl ⟨hd,j,want,true,hg,hv,fun _=>h _ (fun _ q=>q),fun e=>nomatch e⟩)
theorem flatMap_at {xs:List V} {i:Nat} {x:V} (h:xs[i]? =some x):xs.flatMap V.cells=(xs.take i).flatMap V.cells++(x.cells++(xs.drop (i+1)).flatMap V.cells):=by
  grind[List.getElem?_eq_some_iff,List.take_append_drop,List.drop_eq_getElem_cons]
theorem flatMap_setAt {xs:List V} {i:Nat} {x y:V} (h:xs[i]? =some x):(xs.set i y).flatMap V.cells=(xs.take i).flatMap V.cells++(y.cells++(xs.drop (i+1)).flatMap V.cells):=by
  have hl:=(qlc.1 h).1;have h2:(xs.set i y)[i]? =some y:=qlm hl;rw [flatMap_at h2,List.take_set,List.set_eq_of_length_le (by grind),List.drop_set,if_pos (by omega)]
theorem cells_set {xs:List V} {i:Nat} {x y:V} (h:xs[i]? =some x) (hc:y.cells.length=x.cells.length):∀n,(∀z∈xs,z.cells.length=n)→∀z∈xs.set i y,z.cells.length=n:=by
  grind
theorem weak_outL {m:Nat} {s:St} (id i:Nat) (xs pre ys:List V) (k kd:Kd) (hO:s.O[id]? =some (.arr xs k)) (hk:k=.deep∨k=.part) (hi:xs[i]? =some (.agg (pre++[.sl ys]))) (hy:ys≠[]) (hkd:kd=.deep∨(kd=.flat∧ys.all V.noSl=true)) (hv:s.vw=false) :
    Weak m s {s with O:=s.O.set id (.arr (xs.set i (.agg (pre++[.ref s.O.length]))) .part)++[.arr ys kd]}:=
  weak_out id _ _ xs (xs.set i (.agg (pre++[.ref s.O.length]))) ys ((xs.take i).flatMap V.cells++pre) ((xs.drop (i+1)).flatMap V.cells) k kd hO (.inl ⟨rfl,rfl⟩) hk
    (by rw [flatMap_at hi];simp [V.cells]) (by grind[flatMap_setAt,V.cells]) qlh (cells_set hi (by simp [V.cells])) hy hkd hv
theorem atSlot_two (t:Nat) (u v:V) (l:List (Nat×V)):atSlot t v (atSlot t u l)=atSlot t v l:=by
  grind[atSlot,List.map_map,List.map_congr_left]
theorem weak_retireW {m:Nat} {s:St} (id t:Nat) (xs:List V) (k:Kd) (hm:m≤s.O.length) (hO:s.O[id]? =some (.arr xs k)) (hk:k=.flat∨k=.thin) (ht:s.get t=.ref id) :
    Weak m s {s with env:=atSlot t (.ref s.O.length) s.env,O:=s.O.set id .dead++[.arr xs .thin]}:=by
  have h1:=weak_whole (m:=m) id t xs k hO ht;have htt:look t s.env≠.any:=by
    intro e;have h2:look t s.env=.ref id:=ht
    grind
  have h2:(St.mk (atSlot t (.sub id 0 xs.length) s.env) s.O s.vw s.n s.mask).get t=.sub id 0 xs.length:=by
    show look t (atSlot t _ s.env)=_;rw [look_atSlot t _ s.env t (.inl htt),if_pos rfl]
  have h3:=weak_retire (m:=m) (s:=St.mk (atSlot t (.sub id 0 xs.length) s.env) s.O s.vw s.n s.mask) id xs.length t xs k hm hO hk h2
  grind[List.take_length,weak_trans,atSlot_two]
theorem weak_kf {m:Nat} {s:St} (id:Nat) (xs:List V) (n:Nat) (hO:s.O[id]? =some (.arr xs .deep)) (hn:xs.length=n):Weak m s {s with O:=s.O.set id (.arr xs (fillK n))}:=by
  intro cx a w μ ow hmu h;have hid:id < s.O.length:=(qlc.1 hO).1;obtain ⟨l,hl1,hl2,hl3⟩:=h.blk id _ hO;refine ⟨μ,ow,h.dfr,h.sz,h.env,fun i bk2 e=> ?_,fun i hi=>h.dom i (by grind),h.owl,h.own,h.frm,h.mu⟩
  by_cases hii:i=id
  · subst hii
    rw [qlm hid] at e;simp only [Option.some.injEq] at e;subst e;refine ⟨l,hl1,hl2,?_⟩;rcases hl3 with q | ⟨q1,q2,bl,q3,q4,q5⟩
    · grind
    · have hne:=q5 (by simp)
      have hd:fillK n=.deep:=by
        unfold fillK;rw [if_neg]
        grind
      grind
  · rw [List.getElem?_set_ne (fun q=>hii q.symm)] at e
    exact h.blk i bk2 e
end Go.Vm
namespace Go.Vm
open Go
end Go.Vm
namespace Go.Vm
open Go
end Go.Vm
namespace Go.Vm
open Go
section
variable {α:Type} {f:α→V}
def cellR (f:α→V):Sum V (List α)→V
  | .inl v=>v
  | .inr l=>.sl (l.map f)
def openV (N:Nat):Sum V (List α)→V
  | .inl v=>v
  | .inr l=>rowV N l
def openC:Nat→List (Sum V (List α))→List V
  | _,[]=>[]
  | N,c::cs=>openV N c::openC (N+1) cs
def cellB (f:α→V):Sum V (List α)→Blk
  | .inl _=>.dead
  | .inr l=>rowB f l
def newsC (f:α→V) (cs:List (Sum V (List α))):List Blk:=cs.map (cellB f)
def PlainC (cs:List (Sum V (List α))):Prop:=∀v,Sum.inl v∈cs→v.only (fun _=>false)=true∧v.noSl=true∧v.cells=[v]
theorem noSl_one {w:World} {μ:Nat→Option Loc} {v:V} {x:Value} {bl:List Nat} (h:Rep w μ v x bl) (hn:v.noSl=true) (hc:v.cells=[v]):bl=[]:=by
  have h2:RepL w μ [v] [x] (bl++[]):=.cons _ _ _ _ _ _ h .nil;have h3:RepL w μ ([v].flatMap V.cells) [x] (bl++[]):=by grind
  grind[noSl_all]
theorem open_cells {w:World} (hf:∀a,(f a).noSl=true):∀(ll:List (Sum V (List α))) {vs:List Value} {bl:List Nat},PlainC ll→RepL w M0 (ll.map (cellR f)) vs bl→(∀b∈bl,Live w b)→
    ∃ locs:List (Option Loc),locs.length=ll.length∧bl=locs.filterMap (Option.map Loc.b)∧
      (∀(i:Nat) (l:List α),ll[i]? =some (.inr l)→l.isEmpty=false→∃loc,locs[i]? =some (some loc)∧loc.real=true∧loc.n=(l.map f).length∧Cells w M0 loc (l.map f) [])∧
      ∀(μ':Nat→Option Loc) (N:Nat),(∀(i:Nat) (loc:Loc),locs[i]? =some (some loc)→μ' (N+i)=some loc)→RepL w μ' (openC N ll) vs []
  | [],vs,bl,_,h,_=>by
    cases h;exact ⟨[],rfl,rfl,by simp,fun _ _ _=>.nil⟩
  | .inl v::ll,vs,bl,hp,h,hl=>by
    rw [List.map_cons] at h;cases h with
    | cons _ x blh _ xs bl' h1 h2=>
      obtain ⟨locs,q1,q2,q3,q4⟩:=open_cells hf ll (fun v hv=>hp v (qli _ hv)) h2 fun b hb=>hl b (qlw _ hb)
      have hv:=hp v (qlg ..);have h1':Rep w M0 v x blh:=h1;obtain rfl:=noSl_one h1' hv.2.1 hv.2.2;refine ⟨none::locs,by grind,by grind,?_,?_⟩
      · grind
      · intro μ' N hμ
        have:=q4 μ' (N+1) fun i loc hi=>by have:=hμ (i+1) loc (by grind);grind
        exact .cons _ _ [] _ _ [] (Rep.only (p:=fun _=>false) (fun _ _ q=>by cases q) h1' hv.1) this
  | .inr l :: ll,vs,bl,hp,h,hl=>by
    rw [List.map_cons] at h;cases h with
    | cons _ x blh _ xs bl' h1 h2=>
      obtain ⟨locs,q1,q2,q3,q4⟩:=open_cells hf ll (fun v hv=>hp v (qli _ hv)) h2 fun b hb=>hl b (qlw _ hb)
      cases hl0:l.isEmpty with
      | true=>
        have e0:l=[]:=List.isEmpty_iff.1 hl0;subst e0;have hx:(∃a c,x=.slice a 0 c)∧blh=[]:=by
          have h1':Rep w M0 (.sl []) x blh:=h1;cases h1' with
          | sl0 a c=>simp
          | sl _ _ _ _ _ _ _ h0=>grind
        obtain ⟨⟨a,c,rfl⟩,rfl⟩:=hx;refine ⟨none::locs,by grind,by grind,?_,?_⟩
        · grind
        · intro μ' N hμ
          have:=q4 μ' (N+1) fun i loc hi=>by have:=hμ (i+1) loc (by grind);grind
          exact .cons _ _ [] _ _ [] (.sl0 a c) this
      | false =>
        have hne:l.map f≠[]:=by
          simp_all
        have h1':Rep w M0 (.sl (l.map f)) x blh:=h1;generalize hxs:l.map f=ys at h1' hne;cases h1' with
        | sl0 a c=>grind
        | sl _ b off c sz vs' bl'' h0 hc hs hz hl' k1 hr=>
          have hnil:bl''=[]:=noSl_all hl' (by grind);subst hnil;obtain ⟨cs,t,hh⟩:=hl b (by simp);let loc:Loc:=⟨b,off,sz,ys.length,c,true⟩;have hcells:Cells w M0 loc ys []:=by
            refine ⟨hc.1,hs,hz,cs,t,vs',hh,?_,hl',k1,fun j y hj=> ?_⟩
            · obtain ⟨cs2,t2,fr2,e2,e3⟩:=hc.2
              grind
            · have:=hr j y hj
              grind[cell_of_row]
          refine ⟨some loc::locs,by grind,by grind,?_,?_⟩
          · grind
          · intro μ' N hμ
            have:=q4 μ' (N+1) fun i loc hi=>by have:=hμ (i+1) loc (by grind);grind
            have hm:=hμ 0 loc rfl;refine .cons _ _ [] _ _ [] ?_ this;show Rep w μ' (rowV N l) _ _;unfold rowV;rw [hl0];exact .ref N loc _ hm (Hd.real (l:=loc) rfl)
theorem weak_openC {m:Nat} {s:St} (id:Nat) (xs xs':List V) (ll:List (Sum V (List α))) (k:Kd) (hO:s.O[id]? =some (.arr xs k)) (hc:xs.flatMap V.cells=ll.map (cellR f)) (hc':xs'.flatMap V.cells=openC s.O.length ll) (hlen:xs'.length=xs.length)
    (hsz:∀n,(∀x∈xs,x.cells.length=n)→∀x∈xs',x.cells.length=n) (hp:PlainC ll) (hk:k=.flat∨k=.deep) (hv:s.vw=false) (hf:∀a,(f a).noSl=true) :
    Weak m s {s with O:=s.O.set id (.arr xs' .mix)++newsC f ll}:=by
  intro cx a w μ ow hmu h;have hid:id < s.O.length:=(qlc.1 hO).1;obtain ⟨l,hl1,hl2,hl3⟩:=h.blk id _ hO;have hbl:∃locs:List (Option Loc),locs.length=ll.length∧(locs.filterMap (Option.map Loc.b)).Nodup∧(∀b∈locs.filterMap (Option.map Loc.b),ow b=some (false,id))∧
      (∀(i:Nat) (l:List α),ll[i]? =some (.inr l)→l.isEmpty=false→∃loc,locs[i]? =some (some loc)∧loc.real=true∧loc.n=(l.map f).length∧Cells w M0 loc (l.map f) [])∧
      ∀ (μ':Nat→Option Loc),MLe μ μ'→(∀(i:Nat) (loc:Loc),locs[i]? =some (some loc)→μ' (s.O.length+i)=some loc)→
        (l.real=false∧xs'=[])∨(l.real=true∧ow l.b=some (true,id)∧Cells w μ' l xs' []∧xs'≠[]):=by
    rcases hl3 with ⟨q1,q2⟩ | ⟨q1,q2,bl,q3,q4,q5⟩
    · simp_all
    · have hne:=q5 (by rcases hk with e | e<;>subst e<;>simp)
      have hkm:k.mu μ=M0:=by rcases hk with e | e<;>subst e<;>rfl
      rw [hkm] at q3;obtain ⟨c1,c2,c3,c,t,vs,c4,c5,c6,c7,c8⟩:=q3;rw [hc] at c6;have hown:bl.Nodup∧∀b∈bl,ow b=some (false,id):=by
        rcases hk with e | e
        · subst e;have:bl=[]:=q4;grind
        · subst e;exact q4
      obtain ⟨locs,p1,p2,p3,p4⟩:=open_cells hf ll hp c6 fun b hb=>h.owl b (by grind)
      subst p2;refine ⟨locs,p1,hown.1,hown.2,p3,fun μ' hm hμ=>.inr ⟨q1,q2,⟨c1,c2,?_,c,t,vs,c4,c5,?_,c7,c8⟩,?_⟩⟩
      rotate_left 2
      · grind
      · simp_all
      grind
  obtain ⟨locs,p1,p2,p3,p4,p5⟩:=hbl;let N:=s.O.length;let μ':Nat→Option Loc:=fun j=>if j < N then μ j else (locs[j - N]?).join
  let ow':Ow:=fun b=>match posOf b locs with | some i=>some (true,N+i) | none=>ow b
  have hm:MLe μ μ':=by
    intro j lc e;have:j < N:=by
      rcases qlt j N with q | q
      · exact q
      · rw [h.dom j q] at e;cases e
    grind
  have hμ:∀i loc,locs[i]? =some (some loc)→μ' (N+i)=some loc:=by
    grind
  have hnone:∀b,ow b≠some (false,id)→ow' b=ow b:=by
    grind[posOf,posOf_none]
  have hne:∀b,ow' b≠none→ow b≠none:=by
    grind
  have hvok:∀b,VOK cx ow s.vw b→VOK cx ow' s.vw b:=by
    intro b hb;rw [hv] at hb⊢;have h0:ow b=none:=hb.1.resolve_right (by simp);exact ⟨.inl (by grind),hb.2⟩
  refine ⟨μ',ow',h.dfr,h.sz,fun t=> ?_,fun j bk e=> ?_,fun j hj=> ?_,fun b hb=>h.owl b (hne b hb),fun b hb=>h.own b (hne b hb),h.frm,h.mu.trans hm⟩
  · obtain ⟨bl,r1,r2⟩:=h.env t
    exact ⟨bl,r1.keep hm fun _ _=>rfl,fun b hb=>hvok b (r2 b hb)⟩
  · rcases qlt j N with hj | hj
    · rw [qlu (by grind)] at e
      by_cases hji:j=id
      · subst hji
        rw [qlm hid] at e;simp only [Option.some.injEq] at e;subst e;refine ⟨l,hm _ _ hl1,by omega,?_⟩;rcases p5 μ' hm hμ with q | ⟨q1,q2,q3,q4⟩
        · grind
        · exact .inr ⟨q1,by grind,[],q3,by simp [KdOK],fun _=>q4⟩
      · rw [List.getElem?_set_ne (fun q=>hji q.symm)] at e
        refine (h.blk j bk e).keep hm (fun q=>q) fun b hb hc=>⟨rfl,hnone b ?_⟩
        rcases hc with q | q | q
        · grind
        · grind
        · rw [hv] at q
          rw [q.1.resolve_right (by simp)];simp
    · rw [qlj (by grind),qlh] at e
      have e':(newsC f ll)[j - N]? =some bk:=e;rw [newsC,List.getElem?_map,Option.map_eq_some_iff] at e';obtain ⟨c0,e1,e2⟩:=e';subst e2;cases c0 with
      | inl v=>trivial
      | inr l0=>
        show BlkOK cx w μ' ow' s.vw j (rowB f l0);unfold rowB;cases hl0:l0.isEmpty with
        | true=>simp only [if_true];trivial
        | false=>
          simp only [Bool.false_eq_true,if_false];obtain ⟨loc,z1,z2,z3,z4⟩:=p4 _ _ e1 hl0;have hjn:N+(j - N)=j:=by omega
          refine ⟨loc,by grind,z3,.inr ⟨z2,?_,[],z4,rfl,fun _ q=>by grind⟩⟩;simp only [ow',posOf_get p2 z1]
          grind
  · have hlen2:(s.O.set id (.arr xs' .mix)++newsC f ll).length=N+ll.length:=by simp [newsC,N]
    grind
theorem close_cells {w:World} {μ:Nat→Option Loc} {ow:Ow}:∀(ll:List (Sum V (List α))) (N:Nat) {vs:List Value} {bl:List Nat},PlainC ll→RepL w μ (openC N ll) vs bl→
    (∀(i:Nat) (l:List α),ll[i]? =some (.inr l)→l.isEmpty=false→∃loc,μ (N+i)=some loc∧loc.real=true∧loc.n=(l.map f).length∧Cells w M0 loc (l.map f) []∧ow loc.b=some (true,N+i))→
    ∃bl',RepL w M0 (ll.map (cellR f)) vs bl'∧bl'.Nodup∧∀b∈bl',∃i,ow b=some (true,N+i)
  | [],N,vs,bl,_,h,_=>by
    cases h;exact ⟨[],.nil,by simp,by simp⟩
  | .inl v::ll,N,vs,bl,hp,h,hl=>by
    rw [openC] at h;cases h with
    | cons _ x blh _ xs bl' h1 h2=>
      obtain ⟨bt,q1,q2,q3⟩:=close_cells ll (N+1) (fun v hv=>hp v (qli _ hv)) h2 fun i l hi hne=>by
        obtain ⟨loc,z1,z2⟩:=hl (i+1) l (by grind) hne;rw [show N+(i+1)=N+1+i by omega] at z1 z2;exact ⟨loc,z1,z2⟩
      have hv:=hp v (qlg ..);have h1':Rep w μ v x blh:=h1;obtain rfl:=noSl_one h1' hv.2.1 hv.2.2;refine ⟨[]++bt,.cons _ _ _ _ _ _ (Rep.only (p:=fun _=>false) (fun _ _ q=>by cases q) h1' hv.1) q1,by grind,fun b hb=> ?_⟩;obtain ⟨i,e⟩:=q3 b (by grind);exact ⟨i+1,by grind⟩
  | .inr l :: ll,N,vs,bl,hp,h,hl=>by
    rw [openC] at h;cases h with
    | cons _ x blh _ xs bl' h1 h2=>
      obtain ⟨bt,q1,q2,q3⟩:=close_cells ll (N+1) (fun v hv=>hp v (qli _ hv)) h2 fun i l hi hne=>by
        obtain ⟨loc,z1,z2⟩:=hl (i+1) l (by grind) hne;rw [show N+(i+1)=N+1+i by omega] at z1 z2;exact ⟨loc,z1,z2⟩
      have q3':∀b∈bt,∃i,ow b=some (true,N+(i+1)):=fun b hb=>by
        grind
      have h1:Rep w μ (rowV N l) x blh:=h1;unfold rowV at h1;cases hl0:l.isEmpty with
      | true=>
        have e0:l=[]:=List.isEmpty_iff.1 hl0;subst e0;have hx:∃a c,x=.slice a 0 c:=by
          have h1':Rep w μ (.sl []) x blh:=h1;cases h1' with
          | sl0 a c=>simp
          | sl _ _ _ _ _ _ _ h0=>simp
        obtain ⟨a,c,rfl⟩:=hx;refine ⟨[]++bt,.cons _ _ _ _ _ _ (.sl0 a c) q1,by grind,fun b hb=> ?_⟩;obtain ⟨i,e⟩:=q3' b (by grind)
        simp_all
      | false=>
        rw [hl0] at h1;obtain ⟨loc,z1,z2,z3,⟨c1,c2,c3,c,t,vs',c4,c5,c6,c7,c8⟩,z5⟩:=hl 0 l rfl hl0;have h1':Rep w μ (.ref N) x blh:=h1;have hx:x=.slice (some ⟨loc.b,loc.off,none⟩) (l.map f).length loc.cap:=by
          cases h1' with
          | ref _ lc _ hm hd=>
            have hm':μ N=some loc:=z1;rw [hm'] at hm;cases hm;rw [←z3];cases hd with
            | real hr=>rfl
            | nil a hr h0=>grind
        subst hx;have hrep:Rep w M0 (cellR f (.inr l)) (.slice (some ⟨loc.b,loc.off,none⟩) (l.map f).length loc.cap) [loc.b]:=
          .sl (l.map f) loc.b loc.off loc.cap loc.sz vs' [] (fun q=>by grind) ⟨by omega,c,t,(0,0),c4,c5⟩ c2 c3 c6 c7 fun j y hj=>by
            grind[cell_of_row]
        refine ⟨[loc.b]++bt,.cons _ _ _ _ _ _ hrep q1,?_,?_⟩
        · grind
        · intro b hb
          rcases qlo.1 hb with e | e
          · simp_all
          · obtain ⟨i,e⟩:=q3' b e;simp_all
theorem weak_closeC {m:Nat} {s:St} (A:List Blk) (id:Nat) (xs xs':List V) (ll:List (Sum V (List α))) (hO:s.O=A++newsC f ll) (hA:A[id]? =some (.arr xs' .mix)) (hc:xs.flatMap V.cells=ll.map (cellR f)) (hc':xs'.flatMap V.cells=openC A.length ll) (hlen:xs'.length=xs.length)
    (hsz:∀n,(∀x∈xs',x.cells.length=n)→∀x∈xs,x.cells.length=n) (hp:PlainC ll) :
    Weak m s {s with O:=A.set id (.arr xs .deep)++List.replicate ll.length .dead}:=by
  intro cx a w μ ow hmu h;have hid:id < A.length:=(qlc.1 hA).1;let N:=A.length;obtain ⟨l,hl1,hl2,hl3⟩:=h.blk id (.arr xs' .mix) (by grind);have hin:∀(i:Nat) (l:List α),ll[i]? =some (.inr l)→l.isEmpty=false→∃loc,μ (N+i)=some loc∧loc.real=true∧loc.n=(l.map f).length∧Cells w M0 loc (l.map f) []∧ow loc.b=some (true,N+i):=by
    intro i l hi hne;have hb:=h.blk (N+i) (.arr (l.map f) .flat) (by
      grind[List.getElem?_append_right,newsC,Nat.add_sub_cancel_left,cellB,rowB,Bool.false_eq_true])
    obtain ⟨loc,z1,z2,z3⟩:=hb;rcases z3 with ⟨_,z3⟩ | ⟨z3,z4,bl,z5,z6⟩
    · grind
    · have:bl=[]:=z6.1
      subst this;exact ⟨loc,z1,z3,z2,z5,z4⟩
  let ow':Ow:=fun b=>match ow b with
    | some (true,j)=>if N≤j then some (false,id) else some (true,j)
    | o=>o
  have o0:∀b,ow b=none→ow' b=none:=fun b e=>by grind
  have o1:∀b j,ow b=some (false,j)→ow' b=some (false,j):=fun b j e=>by grind
  have o2:∀b j,j < N→ow b=some (true,j)→ow' b=some (true,j):=fun b j hj e=>by
    grind
  have o3:∀b j,N≤j→ow b=some (true,j)→ow' b=some (false,id):=fun b j hj e=>by grind
  have hvok:∀b,VOK cx ow s.vw b→ow' b=ow b:=by
    intro b hb;rcases hb.1 with e | ⟨_,j,e⟩
    · grind
    grind
  have hne:∀b,ow' b≠none→ow b≠none:=fun b hb e=>hb (o0 b e)
  refine ⟨μ,ow',h.dfr,h.sz,fun t=> ?_,fun j bk e=> ?_,fun j hj=> ?_,fun b hb=>h.owl b (hne b hb),fun b hb=>h.own b (hne b hb),h.frm,h.mu⟩
  · obtain ⟨bl,r1,r2⟩:=h.env t
    exact ⟨bl,r1,fun b hb=>(r2 b hb).mono (hvok b (r2 b hb)) (fun q=>q)⟩
  · rcases qlt j N with hj | hj
    · rw [qlu (by grind)] at e
      by_cases hji:j=id
      · subst hji
        rw [qlm hid] at e;simp only [Option.some.injEq] at e;subst e;refine ⟨l,hl1,by omega,?_⟩;rcases hl3 with ⟨q1,q2⟩ | ⟨q1,q2,bl,⟨c1,c2,c3,c,t,vs,c4,c5,c6,c7,c8⟩,q4,hne1⟩
        · grind
        · have c6':RepL w μ (openC A.length ll) vs bl:=by rw [←hc'];exact c6
          obtain ⟨bl',k1,k2,k3⟩:=close_cells (f:=f) (ow:=ow) ll A.length hp c6' hin;have hne0:=hne1 (by simp);refine .inr ⟨q1,o2 _ _ hid q2,bl',⟨c1,c2,hsz l.sz c3,c,t,vs,c4,c5,?_,c7,c8⟩,⟨k2,?_⟩,?_⟩
          · rw [hc];exact k1
          · grind
          grind
      · rw [List.getElem?_set_ne (fun q=>hji q.symm)] at e
        refine (h.blk j bk (by grind)).keep (MLe.refl _) (fun q=>q) fun b _ hc=>⟨rfl,?_⟩
        grind
    · rw [qlj (by grind)] at e
      rw [List.eq_of_mem_replicate (qlb e)];trivial
  · refine h.dom j ?_
    grind[List.replicate,newsC]
end
theorem aCall_lent3 {P:Program} {s:St} {f:FuncId} {args args':List V} {r:V} {b1 b2 b3 b1' b2' b3':Blk} {O':List Blk} {K:V→St→Prop} (i j k:Nat) (hc:Con P f args' [b1,b2,b3] r (b1'::b2'::b3'::O')) (ht:toArgs s [i,j,k] args=some args')
    (h1:s.O[i]? =some b1) (h2:s.O[j]? =some b2) (h3:s.O[k]? =some b3) (hn:[i,j,k].Nodup) (hbk:∀b∈[b1,b2,b3],b.kindIs (fun k=>k.nm)=true∧b≠.dead) (hv:s.vw=false∨∀b∈[b1,b2,b3],b.kindIs (fun k=>k == .flat)=true)
    (hcl:r.clean=true∧∀b∈b1'::b2'::b3'::O',b.kindIs (fun k=>k != .shal && k.nm)=true) (hk:K (r.ren (rho [i,j,k] s.O.length)) {s with O:=((s.O.set i b1').set j b2').set k b3'++O'}):aCall P s f [i,j,k] args K:=
  aCall_of ht (by simp_all) hn hbk hv hc (.inl hcl) (by simpa [setBlks] using hk)
end Go.Vm
namespace Go.Vm
open Go
section
variable {τ α:Type} {pre:τ→List V} {sl:τ→List α} {f:α→V} {n:Nat}
def eltV (pre:τ→List V) (sl:τ→List α) (f:α→V) (t:τ):V:=.agg (pre t++[.sl ((sl t).map f)])
def eltC (pre:τ→List V) (sl:τ→List α) (t:τ):List (Sum V (List α)):=(pre t).map .inl++[.inr (sl t)]
def openE (pre:τ→List V) (sl:τ→List α) (n N:Nat) (t:τ):V:=.agg (pre t++[rowV (N+n) (sl t)])
def openX (pre:τ→List V) (sl:τ→List α) (n:Nat):Nat→List τ→List V
  | _,[]=>[]
  | N,t::l=>openE pre sl n N t::openX pre sl n (N+(n+1)) l
theorem openC_append:∀(a b:List (Sum V (List α))) (N:Nat),openC N (a++b)=openC N a++openC (N+a.length) b
  | [],b,N=>rfl
  | c::a,b,N=>by
    rw [List.cons_append,openC,openC,openC_append a b (N+1),List.cons_append,ql1]
    grind
theorem openC_inl:∀(vs:List V) (N:Nat),openC N (vs.map (Sum.inl:V→Sum V (List α)))=vs
  | [],_=>rfl
  | v::vs,N=>by rw [List.map_cons,openC,openC_inl vs];rfl
theorem eltC_len (hn:∀t,(pre t).length=n) (t:τ):(eltC pre sl t).length=n+1:=by grind[eltC,List.length_append,List.length_map]
theorem openX_len:∀(l:List τ) (N:Nat),(openX pre sl n N l).length=l.length
  | [],_=>rfl
  | t::l,N=>by rw [openX,ql1,ql1,openX_len l]
theorem elt_closed (l:List τ):(l.map (eltV pre sl f)).flatMap V.cells=(l.flatMap (eltC pre sl)).map (cellR f):=by
  induction l with
  | nil=>rfl
  | cons t l ih=>
    rw [List.map_cons,qll,qll,ql3,ih]
    congr 1
    rw [eltC,ql3,List.map_map];show pre t++[V.sl ((sl t).map f)]=_
    congr 1
    exact (List.map_id _).symm
theorem elt_opened (hn:∀t,(pre t).length=n):∀(l:List τ) (N:Nat),(openX pre sl n N l).flatMap V.cells=openC N (l.flatMap (eltC pre sl))
  | [],_=>rfl
  | t::l,N=>by
    rw [openX,qll,qll,openC_append,eltC_len hn,←elt_opened hn l]
    congr 1
    rw [eltC,openC_append,openC_inl,ql9,hn];rfl
theorem elt_plain (hp:∀t,∀v∈pre t,v.only (fun _=>false)=true∧v.noSl=true∧v.cells=[v]) (l:List τ):PlainC (l.flatMap (eltC pre sl)):=by
  intro v hv
  grind[eltC,List.mem_singleton]
theorem openX_get:∀{l:List τ} {N i:Nat} {t:τ},l[i]? =some t→(openX pre sl n N l)[i]? =some (openE pre sl n (N+(n+1) * i) t)
  | [],_,_,_,h=>by grind
  | x::l,N,0,t,h=>by
    obtain rfl:x=t:=by grind
    rfl
  | x::l,N,i+1,t,h=>by
    rw [openX,List.getElem?_cons_succ,openX_get (l:=l) (by simpa using h)]
    grind
theorem openX_set:∀{l:List τ} {N i:Nat} {t:τ},(openX pre sl n N l).set i (openE pre sl n (N+(n+1) * i) t)=openX pre sl n N (l.set i t)
  | [],_,_,_=>rfl
  | x::l,N,0,t=>rfl
  | x::l,N,i+1,t=>by
    rw [openX,List.set_cons_succ,List.set_cons_succ,openX,←openX_set (l:=l)]
    grind
theorem newsX_get (hn:∀t,(pre t).length=n):∀{l:List τ} {i:Nat} {t:τ},l[i]? =some t→(newsC f (l.flatMap (eltC pre sl)))[(n+1) * i+n]? =some (rowB f (sl t))
  | [],_,_,h=>by grind
  | x::l,0,t,h=>by
    obtain rfl:x=t:=by grind
    rw [newsC,qll,ql3,qlu (by simp_all[List.length_map,eltC_len]),eltC,ql3,qlj (by grind)];simp [hn,cellB]
  | x::l,i+1,t,h=>by
    have ih:=newsX_get hn (l:=l) (i:=i) (t:=t) (by grind);rw [newsC] at ih;rw [newsC,qll,ql3,qlj (by rw [ql9,eltC_len hn,Nat.mul_add];omega),ql9,eltC_len hn,show (n+1) * (i+1)+n - (n+1)=(n+1) * i+n by grind];omega
theorem newsX_set (hn:∀t,(pre t).length=n):∀{l:List τ} {i:Nat} {t:τ},i < l.length→(newsC f (l.flatMap (eltC pre sl))).set ((n+1) * i+n) (rowB f (sl t))=newsC f ((l.set i t).flatMap (eltC pre sl))
  | [],_,_,h=>by rfl
  | x ::l,0,t,_=>by
    rw [newsC,newsC,List.set_cons_zero,qll,qll,ql3,ql3,List.set_append_left _ _ (by simp_all[List.length_map,eltC_len])]
    congr 1
    rw [eltC,eltC,ql3,ql3,List.set_append_right _ _ (by grind)];have e:∀t:τ,((pre t).map (Sum.inl:V→Sum V (List α))).map (cellB f)=List.replicate n Blk.dead:=fun t=>by
      rw [List.map_map,←hn t];exact List.map_const' ..
    simp_all[cellB]
  | x::l,i+1,t,h=>by
    have ih:=newsX_set hn (l:=l) (i:=i) (t:=t) (by grind);rw [newsC,newsC] at ih;rw [newsC,newsC,List.set_cons_succ,qll,qll,ql3,ql3,List.set_append_right _ _ (by rw [ql9,eltC_len hn,Nat.mul_add];omega),ql9,eltC_len hn,show (n+1) * (i+1)+n - (n+1)=(n+1) * i+n by grind,ih]
end
end Go.Vm
namespace Go.Vm
open Go
def zE:=(And.intro (@get_mk) (And.intro (@look_cons) (And.intro (@look_nil) (And.intro (@set_none) (And.intro (@ev_tmp) (And.intro (@ev_const) (And.intro (@ev_func) (And.intro (@dst_some) (And.intro (@dst_none) (And.intro (@List.append_nil.{0}) (And.intro (@List.nil_append.{0}) (And.intro (@List.cons_append.{0}) (And.intro (@true_and) (And.intro (@and_true) (And.intro (@and_self) (And.intro (@imp_self) (And.intro (@Bool.false_eq_true) (And.intro (@false_implies) (And.intro (@cond_true.{1}) (And.intro (@cond_false.{1}) (And.intro (@decide_eq_true_eq) (And.intro (@eq_self_iff_true.{1}) (And.intro (@exists_eq_left'.{1}) (And.intro (@Option.some.injEq.{0}) (And.intro (@not_false_eq_true) (And.intro (@not_true_eq_false) (@ne_eq.{1})))))))))))))))))))))))))))
def zS:=(And.intro (@settle_int) (And.intro (@settle_bool) (And.intro (@settle_str) (And.intro (@settle_nsl) (And.intro (@settle_sl) (And.intro (@settle_ref) (And.intro (@settle_sub) (And.intro (@settle_ptr) (And.intro (@settle_pv) (And.intro (@settle_tup) (And.intro (@settle_fn) (And.intro (@settle_npt) (And.intro (@settle_agg) (And.intro (@settleL_nil) (And.intro (@settleL_nsl) (And.intro (@settleL_int) (And.intro (@settleL_bool) (And.intro (@settleL_str) (And.intro (@settleL_sl) (And.intro (@settleL_ref) (And.intro (@List.length_nil.{0}) (And.intro (@ql1.{0}) (And.intro (@qlr.{0}) (And.intro (@Nat.zero_add) (And.intro (@Nat.add_zero) (@List.cons_append.{0}))))))))))))))))))))))))))
def zN:=(And.intro (@Nat.zero_lt_one) (And.intro (@Nat.lt_add_one) (And.intro (@Nat.zero_add) (And.intro (@Nat.add_zero) (And.intro (@qlz) (@Nat.zero_lt_succ))))))
def zL:=(And.intro (@List.getElem?_toArray.{0}) (And.intro (@List.getElem?_cons_succ.{0}) (And.intro (@List.getElem?_cons_zero.{0}) (And.intro (@List.getD_cons_zero.{0}) (And.intro (@List.getD_cons_succ.{0}) (And.intro (@ql1.{0}) (And.intro (@List.length_nil.{0}) (And.intro (@List.drop_zero.{0}) (And.intro (@List.drop_succ_cons.{0}) (And.intro (@List.headD_cons.{0}) (And.intro (@List.take_succ_cons.{0}) (And.intro (@List.take_zero.{0}) (And.intro (@List.take_nil.{0}) (And.intro (@List.drop_nil.{0}) (And.intro (@List.map_cons.{0,0}) (And.intro (@List.map_nil.{0,0}) (And.intro (@Option.bind_some.{0,0}) (And.intro (@Option.isSome_some.{0}) (@Option.map_some.{0,0})))))))))))))))))))
def zO:=(And.intro (@Bool.or_false) (And.intro (@Bool.false_or) (And.intro (@Bool.or_true) (And.intro (@Bool.true_or) (And.intro (@Bool.not_true) (And.intro (@Bool.not_false) (And.intro (@qma) (And.intro (@qmb) (And.intro (@Bool.false_and) (And.intro (@Bool.true_and) (And.intro (@decide_true) (And.intro (@decide_false) (And.intro (@Bool.or_self) (@Bool.and_self))))))))))))))
def zJ:=(And.intro (@join_ff) (And.intro (@join_ft) (And.intro (@join_fv) (And.intro (@join_d) (And.intro (@join_s) (And.intro (@join_p) (And.intro (@fillK_join0) (And.intro (@List.isEmpty_nil.{0}) (And.intro (@List.isEmpty_cons.{0}) (And.intro (@fillK_join) (And.intro (@List.not_mem_nil.{0}) (And.intro (@List.nodup_nil.{0}) (And.intro (@List.mem_singleton.{0}) (And.intro (@List.nodup_cons.{0}) (And.intro (@beq_self_eq_true.{0}) (And.intro (@Bool.cond_true.{1}) (And.intro (@Bool.cond_false.{1}) (And.intro (@List.all_cons.{0}) (And.intro (@List.all_nil.{0}) (And.intro (@List.set_cons_zero.{0}) (@List.set_cons_succ.{0})))))))))))))))))))))
def zP:=(And.intro (@Bool.cond_true_right) (And.intro (@Bool.cond_true_left) (And.intro (@Bool.cond_false_right) (@Bool.cond_false_left))))
def zG:=(And.intro (@List.getElem?_toArray.{0}) (And.intro (@List.getElem?_cons_succ.{0}) (And.intro (@List.getElem?_cons_zero.{0}) (@Option.bind_some.{0,0}))))
def zV:=(And.intro (@get_mk) (And.intro (@look_cons) (And.intro (@cond_true.{1}) (And.intro (@cond_false.{1}) (And.intro (@qma) (And.intro (@Bool.false_and) (And.intro (@Bool.not_true) (And.intro (@Bool.not_false) (And.intro (@List.getElem?_toArray.{0}) (And.intro (@List.getElem?_cons_succ.{0}) (And.intro (@List.getElem?_cons_zero.{0}) (@Option.bind_some.{0,0}))))))))))))
def zC:=(And.intro (@decide_eq_true_eq) (And.intro (@decide_eq_false_iff_not) (And.intro (@qlf) (And.intro (@Bool.or_eq_true) (And.intro (@Bool.not_eq_true') (And.intro (@Bool.not_eq_false') (And.intro (@Bool.and_eq_false_imp) (And.intro (@Bool.or_eq_false_iff) (And.intro (@Int.not_lt) (And.intro (@Int.not_le) (And.intro (@Bool.true_eq_false) (And.intro (@Bool.false_eq_true) (And.intro (@imp_false) (@Classical.not_imp))))))))))))))
def zM:=(And.intro (@List.map_cons.{0,0}) (And.intro (@List.map_nil.{0,0}) (And.intro (@List.append_nil.{0}) (And.intro (@List.flatMap_nil.{0,0}) (And.intro (@qly.{0}) (And.intro (@List.not_mem_nil.{0}) (And.intro (@or_false) (And.intro (@forall_eq_or_imp.{1}) (And.intro (@forall_eq.{1}) (@false_implies))))))))))
def zW:=(And.intro (@get_mk) (And.intro (@look_cons) (And.intro (@look_nil) (And.intro (@set_none) (And.intro (@ev_tmp) (And.intro (@ev_const) (@ev_func)))))))
def zY:=(And.intro (@List.append_nil.{0}) (And.intro (@List.cons_append.{0}) (And.intro (@List.nil_append.{0}) (And.intro (@List.length_nil.{0}) (And.intro (@ql1.{0}) (And.intro (@Nat.zero_add) (And.intro (@Nat.not_lt_zero) (And.intro (@if_false.{1}) (@Nat.sub_zero)))))))))
theorem rng0:List.range 0=[]:=rfl
theorem rng1:List.range 1=[0]:=rfl
theorem rng2:List.range 2=[0,1]:=rfl
theorem rng3:List.range 3=[0,1,2]:=rfl
theorem rng4:List.range 4=[0,1,2,3]:=rfl
theorem rng5:List.range 5=[0,1,2,3,4]:=rfl
theorem rng6:List.range 6=[0,1,2,3,4,5]:=rfl
theorem rng7:List.range 7=[0,1,2,3,4,5,6]:=rfl
theorem rng8:List.range 8=[0,1,2,3,4,5,6,7]:=rfl
theorem rng9:List.range 9=[0,1,2,3,4,5,6,7,8]:=rfl
theorem rng10:List.range 10=[0,1,2,3,4,5,6,7,8,9]:=rfl
theorem rng11:List.range 11=[0,1,2,3,4,5,6,7,8,9,10]:=rfl
theorem rng12:List.range 12=[0,1,2,3,4,5,6,7,8,9,10,11]:=rfl
theorem flat_mix:Kd.flat.nm=true:=rfl
theorem deep_mix:Kd.deep.nm=true:=rfl
end Go.Vm
namespace Go.Vm
open Go
def Kd.isMix:Kd→Bool
  | .mix | .part=>true
  | _=>false
theorem isMix_flat:Kd.flat.isMix=false:=rfl
theorem isMix_deep:Kd.deep.isMix=false:=rfl
theorem isMix_shal:Kd.shal.isMix=false:=rfl
theorem isMix_thin:Kd.thin.isMix=false:=rfl
theorem isMix_mix:Kd.mix.isMix=true:=rfl
theorem isMix_part:Kd.part.isMix=true:=rfl
theorem isMix_fillK (i:Nat):(fillK i).isMix=false:=by unfold fillK;split<;>rfl
theorem isMix_thK (i:Nat):(thK i).isMix=false:=by unfold thK;split<;>rfl
def Blk.renM (ρ:Nat→Nat):Blk→Blk
  | .dead=>.dead
  | .hid j n=>.hid (ρ j) n
  | .arr xs k=>.arr (bif k.isMix then V.renL ρ xs else xs) k
  | .box x k=>.box (bif k.isMix then V.ren ρ x else x) k
def Blk.onlyM (p:Nat→Bool):Blk→Bool
  | .dead=>true
  | .hid _ _=>false
  | .arr xs k=> !k.isMix || V.onlyL p xs
  | .box x k=> !k.isMix || V.only p x
def St.compM (ids:List Nat) (s:St):St:={s with env:=s.env.map fun p=>(p.1,p.2.ren fun id=>(idx ids id).getD 0),O:=ids.map fun id=>(s.O.getD id .dead).renM fun id=>(idx ids id).getD 0}
theorem renL_map (ρ:Nat→Nat):∀l:List V,V.renL ρ l=l.map (V.ren ρ)
  | []=>by rfl
  | v::l=>by rw [V.renL,renL_map ρ l];rfl
theorem ren_cells (ρ:Nat→Nat) (v:V):(v.ren ρ).cells=v.cells.map (V.ren ρ):=by
  cases v<;>simp only [V.ren,V.cells,List.map_cons,List.map_nil]
  rw [renL_map]
theorem renL_flat (ρ:Nat→Nat) (l:List V):(V.renL ρ l).flatMap V.cells=V.renL ρ (l.flatMap V.cells):=by
  induction l with
  | nil=>rfl
  | cons v l ih=>grind[V.renL,ren_cells,renL_map]
theorem weak_compM {m:Nat} {s:St} (ids:List Nat) (hn:ids.Nodup) (hm:∀j,j < m→ids[j]? =some j) (he:∀p∈s.env,p.2.only (fun id=>(idx ids id).isSome)=true)
    (hb:∀id∈ids,∀bk,s.O[id]? =some bk→bk.onlyM (fun id=>(idx ids id).isSome)=true):Weak m s (s.compM ids):=by
  intro cx a w μ ow hmu h;let ρ:Nat→Nat:=fun id=>(idx ids id).getD 0
  let μ':Nat→Option Loc:=fun j=>(ids[j]?).bind μ
  let ow':Ow:=fun b=>match ow b with
    | some (r,id)=>(idx ids id).map fun j=>(r,j)
    | none=>none
  have o0:∀b,ow b=none→ow' b=none:=fun b e=>by simp [ow',e]
  have o1:∀b id,ow b=some (false,id)→ow' b=none∨∃id',ow' b=some (false,id'):=fun b id e=>by
    cases q:idx ids id with
    | none=>exact .inl (by simp [ow',e,q])
    | some j=>exact .inr ⟨j,by simp [ow',e,q]⟩
  have oin:∀b r id j,ow b=some (r,id)→idx ids id=some j→ow' b=some (r,j):=fun b r id j e q=>by simp [ow',e,q]
  have one:∀b,ow' b≠none→ow b≠none:=fun b hb e=>hb (o0 b e)
  have hμ:∀id l,(idx ids id).isSome=true→μ id=some l→μ' (ρ id)=some l:=by
    intro id l hs e;obtain ⟨j,hj⟩:=ql6.1 hs;have:=idx_spec hj;simp [μ',ρ,hj,this,e]
  let μ2:Nat→Option Loc:=fun id=>if (idx ids id).isSome then μ id else none
  have h2:∀id l,μ2 id=some l→μ' (ρ id)=some l:=by
    intro id l e
    by_cases q:(idx ids id).isSome=true
    · exact hμ id l q (by simpa [μ2,q] using e)
    · simp [μ2,q] at e
  refine ⟨μ',ow',h.dfr,h.sz,fun t=> ?_,fun j bk e=> ?_,fun j hj=> ?_,fun b hb=>h.owl b (one b hb),fun b hb=>h.own b (one b hb),h.frm,fun id l e=> ?_⟩
  · obtain ⟨bl,r1,r2⟩:=h.env t
    show ∃bl,Rep w μ' (look t (s.env.map _)) _ bl∧_;rw [look_ren];have r1':Rep w μ2 (look t s.env) (a.tmps.getD t undef) bl:=Rep.only (p:=fun id=>(idx ids id).isSome) (fun id l hp e=>by simp only [μ2,hp,if_true];exact e) r1 (look_only he t);exact ⟨bl,Rep.ren (ρ:=ρ) h2 r1',fun b hb=>(r2 b hb).mono2 (o0 b) (o1 b)⟩
  · have e' : (ids[j]?).map (fun id=>(s.O.getD id .dead).renM ρ)=some bk:=by rw [←List.getElem?_map];exact e
    rw [Option.map_eq_some_iff] at e';obtain ⟨id,hid,hbk⟩:=e';have hix:idx ids id=some j:=idx_get hn hid;cases hO:s.O[id]? with
    | none=>
      rw [qlk,hO] at hbk;simp only [Option.getD_none] at hbk;subst hbk;trivial
    | some bk' =>
      rw [qlk,hO] at hbk;simp only [Option.getD_some] at hbk;have hblk:=h.blk id bk' hO;have hbm:=hb id (qlb hid) bk' hO;have key:∀xs k,(k.isMix=true→V.onlyL (fun id=>(idx ids id).isSome) xs=true)→RowOK cx w μ ow s.vw id xs k→RowOK cx w μ' ow' s.vw j (bif k.isMix then V.renL ρ xs else xs) k:=by
        intro xs k hk ⟨l,q1,q2,q3⟩;have q1':μ' j=some l:=by simp [μ',hid,q1]
        have hlen:(bif k.isMix then V.renL ρ xs else xs).length=xs.length:=by
          cases k.isMix
          · rfl
          · rw [cond_true,renL_map,ql9]
        refine ⟨l,q1',by rw [hlen];exact q2,?_⟩;rcases q3 with ⟨q3,q3'⟩ | ⟨q3,q4,bl2,q5,q6,q7⟩
        · refine .inl ⟨q3,?_⟩
          subst q3';cases k.isMix
          · rfl
          · rw [cond_true,V.renL]
        · refine .inr ⟨q3,oin _ _ _ _ q4 hix,bl2,?_,?_,fun hne e=>q7 hne (qlv.1 (by rw [←hlen,e];rfl))⟩
          · cases k with
            | flat | thin | deep | shal=>exact q5
            | mix | part=>
              obtain ⟨c1,c2,c3,c,t,vs,c4,c5,c6,c7,c8⟩:=q5;refine ⟨c1,c2,?_,c,t,vs,c4,c5,?_,c7,c8⟩
              · intro x hx
                have hx':x∈V.renL ρ xs:=hx;rw [renL_map] at hx';obtain ⟨y,hy,rfl⟩:=List.mem_map.1 hx';rw [ren_cells,ql9];exact c3 y hy
              · show RepL w μ' ((V.renL ρ xs).flatMap V.cells) vs bl2
                rw [renL_flat];have c6':RepL w μ (xs.flatMap V.cells) vs bl2:=c6;exact RepL.ren (ρ:=ρ) h2 (RepL.only (p:=fun id=>(idx ids id).isSome) (μ':=μ2) (fun id l hp e=>by simp only [μ2,hp,if_true];exact e) c6' (onlyL_flat (hk rfl)))
          · cases k with
            | flat | thin=>exact q6
            | deep | part=>exact ⟨q6.1,fun b hb=>oin _ _ _ _ (q6.2 b hb) hix⟩
            | shal | mix=>exact fun b hb=>(q6 b hb).mono2 (o0 b) (o1 b)
      subst hbk;cases bk' with
      | dead=>trivial
      | hid j' n'=>simp [Blk.onlyM] at hbm
      | arr xs k=>exact key xs k (fun q=>by simpa [Blk.onlyM,q] using hbm) hblk
      | box x k=>
        have:=key [x] k (fun q=>by simpa [Blk.onlyM,q,V.onlyL] using hbm) hblk;show RowOK cx w μ' ow' s.vw j [bif k.isMix then V.ren ρ x else x] k;cases hq:k.isMix with
        | false=>rw [hq] at this;exact this
        | true=>rw [hq,cond_true,V.renL,V.renL] at this;exact this
  · have:ids[j]? =none:=qlp (by simpa [St.compM] using hj)
    simp [μ',this]
  · have hlt:id < m:=by
      rcases qlt id m with q | q
      · exact q
      · rw [hmu id q] at e;cases e
    have:=h.mu id l e;simp [μ',hm id hlt,this]
theorem weak_bothM {m:Nat} {s s':St} (ks ids:List Nat) (hn:ids.Nodup) (hm:∀j,j < m→ids[j]? =some j) (he:∀p∈(s.keep ks).env,p.2.only (fun id=>(idx ids id).isSome)=true)
    (hb:∀id∈ids,∀bk,s.O[id]? =some bk→bk.onlyM (fun id=>(idx ids id).isSome)=true) (e:(s.keep ks).compM ids=s'):Weak m s s':=
  e ▸ weak_trans (weak_keep ks s) (weak_compM ids hn hm he hb)
theorem RepL.len {w:World} {μ:Nat→Option Loc}:∀{xs:List V} {vs:List Value} {bl:List Nat},RepL w μ xs vs bl→vs.length=xs.length
  | _,_,_,.nil=>rfl
  | _,_,_,.cons v x bl vs xs bl' h ht=>by rw [ql1,ql1,RepL.len ht]
def newIds (m:Nat) (v:V):List Nat:=(refsOf v).filter fun id=>Nat.ble m id
theorem ret_all {m:Nat} {s:St} {v r:V} {O':List Blk} (h2:v.only (fun id=>Nat.blt id m || (idx (newIds m v) id).isSome)=true) (h3:(newIds m v).Nodup) (hm:m≤s.O.length)
    (h4:v.ren (outNo m (newIds m v))=r) (h5:s.O.take m++(newIds m v).map (fun id=>s.O.getD id .dead)=O') (h6:∀bk∈O',bk.kindIs (fun k=>k != .shal && k.nm)=true) (h7:v.clean=true):RetOK m s v r O':=by
  subst h4 h5;unfold RetOK;refine ⟨⟨h2,h3,hm⟩,rfl,rfl,fun bk hb=> ?_,.inr ⟨h7,h6⟩⟩;have:=h6 bk hb;cases bk with
  | dead=>simp [Blk.kindIs] at this⊢
  | hid j' n'=>simp [Blk.kindIs] at this
  | arr xs k=>cases k<;>simp_all [Blk.kindIs,Kd.nm]
  | box x k=>cases k<;>simp_all [Blk.kindIs,Kd.nm]
theorem rho_s (id n j:Nat):rho [id] n (j+1)=n+j:=by rfl
theorem rho3_0 (i j k n:Nat):rho [i,j,k] n 0=i:=rfl
theorem rho3_1 (i j k n:Nat):rho [i,j,k] n 1=j:=rfl
theorem rho3_2 (i j k n:Nat):rho [i,j,k] n 2=k:=rfl
theorem rho3_s (i j k n m:Nat):rho [i,j,k] n (m+3)=n+m:=by
  rfl
theorem aCall_guard0 {P:Program} {s:St} {f:FuncId} {args args':List V} {r:V} {K:V→Prop} {G:Prop} (hc:G→Con P f args' [] r []) (ht:toArgs s [] args=some args')
    (hr:r.only (fun _=>false)=true) (hcl:r.clean=true) (hk:K r):∃r,(G→aCall P s f [] args fun v s'=>v=r∧s'={s with O:=s.O++[]})∧K r:=
  ⟨r,fun g=>aCall_new (hc g) ht (.inl ⟨hcl,by simp⟩) ⟨ren_only (by simp) hr,rfl⟩,hk⟩
theorem v_seq1 {P:Program} {L:Lend} {m:Nat} {Q:AEx→St→Prop} {s:St} {x y:Code} {S:St} (h1:∀Q':AEx→St→Prop,(∀s,Weak m s S→Q' .normal s)→(∀i s,Q (.exit i) s→Q' (.exit i) s)→(∀s,Q .ret s→Q' .ret s)→awp P L m x Q' s)
    (h2:awp P L m y Q S):awp P L m (.seq x y) Q s:=
  v_seq fun Q' hn he hr=>h1 Q' (fun s hw=>hn s S hw h2) he hr
theorem v_seqR {P:Program} {L:Lend} {m:Nat} {Q:AEx→St→Prop} {s:St} {id:Nat} {ops:Array Oper} {y:Code} (ks:List Nat)
    (h:∀K:St→Prop,(∀s,awp P L m y Q (s.keep ks)→K s)→aOps P L ops K ops.toList s):awp P L m (.seq (.region id ops false) y) Q s:=
  v_seq fun _ hn _ _=>v_region fun K k=>h K fun s q=>k s (hn s (s.keep ks) (weak_keep ks s) q)
end Go.Vm
namespace Go.Vm
open Go Go.RowKit
theorem tab_mem {P:Program} {n:String} {q:Array Value→Prop} {g:Nat} (hg:P.globalNamed n=some g):(g,q)∈tabAt P n q:=by grind[tabAt]
theorem tabs_pow {P:Program} {w:World} (h:TabsIn w (tabsOf P)) {g:Nat} (hg:P.globalNamed "internal/strconv.uint64pow10" =some g):∃c t fr,w.heap[g]? =some (.cells c t fr)∧isPow c:=
  h _ (ql7 _ (tab_mem hg))
theorem tabs_syn {P:Program} {w:World} (h:TabsIn w (tabsOf P)) {g:Nat} (hg:P.globalNamed "strconv.ErrSyntax" =some g):∃c t fr,w.heap[g]? =some (.cells c t fr)∧isErr c:=
  h _ (qlw _ (ql7 _ (tab_mem hg)))
theorem tabs_rng {P:Program} {w:World} (h:TabsIn w (tabsOf P)) {g:Nat} (hg:P.globalNamed "strconv.ErrRange" =some g):∃c t fr,w.heap[g]? =some (.cells c t fr)∧isErr c:=
  h _ (qlw _ (qlw _ (tab_mem hg)))
theorem tabIs_of {P:Program} {g:Nat} (hg:P.globalNamed "internal/strconv.uint64pow10" =some g) {w:World} (h:TabsIn w (tabsOf P)) :
    Lib.TabIs P w "internal/strconv.uint64pow10" .u64 Lib.pow10Tab:=by
  obtain ⟨c,t,fr,q,e⟩:=tabs_pow h hg;rw [e] at q
  grind[Lib.TabIs,World.var?]
theorem tabsIn_app {w:World} {l1 l2:List (Nat×(Array Value→Prop))} (h1:TabsIn w l1) (h2:TabsIn w l2):TabsIn w (l1++l2):=fun p hp=>(qlo.1 hp).elim (h1 p) (h2 p)
theorem tabsIn_none {P:Program} {n:String} {q:Array Value→Prop} {w:World} (h:P.globalNamed n=none):TabsIn w (tabAt P n q):=by
  intro p hp
  grind[tabAt]
theorem tabsIn_err {P:Program} {n:String} {w:World} (h:P.globalNamed n=none∨∃te pe,w.var? P n=some #[.iface te pe]):TabsIn w (tabAt P n isErr):=by
  rcases h with h | ⟨te,pe,h⟩
  · exact tabsIn_none h
  intro p hp;unfold tabAt at hp;unfold World.var? at h;cases hg:P.globalNamed n with
  | none=>grind
  | some g=>
    rw [hg] at hp h;simp only [List.mem_singleton] at hp;subst hp;simp only [Option.bind_some] at h;split at h
    · rename_i cs t fr e
      simp only [Option.some.injEq] at h;exact ⟨cs,t,fr,e,te,pe,h⟩
    grind
theorem tabsIn_pow {P:Program} {w:World} (h:Lib.TabIs P w "internal/strconv.uint64pow10" .u64 Lib.pow10Tab):TabsIn w (tabAt P "internal/strconv.uint64pow10" isPow):=by
  intro p hp;unfold tabAt at hp;unfold Lib.TabIs World.var? at h
  cases hg:P.globalNamed "internal/strconv.uint64pow10" with
  | none=>grind
  | some g=>
    rw [hg] at hp h;simp only [List.mem_singleton] at hp;subst hp;simp only [Option.bind_some] at h;split at h
    · rename_i cs t fr e
      simp only [Option.some.injEq] at h;exact ⟨cs,t,fr,e,h⟩
    grind
end Go.Vm
namespace Go.Vm
open Go
structure Tys (p:Prop):Prop where
  h:p
structure Fc (p:Prop):Prop where
  h:p
structure Ho (p:Prop):Prop where
  h:p
structure Sd (p:Prop):Prop where
  h:p
theorem setAll {xs:List V} {i n:Nat} {y:V} (h:∀x∈xs,x.cells.length=n) (hy:y.cells.length=n):∀x∈xs.set i y,x.cells.length=n:=by
  intro x hx;rcases List.mem_or_eq_of_mem_set hx with q | q
  · exact h x q
  · rw [q];exact hy
theorem gdm {α:Type} {l:List α} {i:Nat} {x:α} (h:l[i]? =some x):∀f:α→V,(l.map f).getD i .any=f x:=fun _=>getD_map h
theorem ai {a b:Prop} (h:a) (k:b):a∧b:=⟨h,k⟩
theorem andA {A B:Prop} (b:B) (a:A:=by first | omega | (intros;omega) | (exact fill_all (fun _=>rfl) rfl) | (exact setAll (fun x hx=>by obtain ⟨t,_,rfl⟩:=List.mem_map.1 hx;rfl) rfl) | (have q:=‹Sd _›;exact q.h _) | (intros;simp_all;done) | (intros;simp_all;omega)):A∧B:=⟨a,b⟩
theorem andC {A B:Prop} (b:B) (a:A:=by first | rfl | (intros;simp_all;done)):A∧B:=⟨a,b⟩
theorem rta {m:Nat} {s:St} {v r:V} {O':List Blk} (h2:v.only (fun id=>Nat.blt id m || (idx (newIds m v) id).isSome)=true:=by rfl) (h3:(newIds m v).Nodup:=by first | decide | simp [newIds,refsOf,refs2,refs1]) (hm:m≤s.O.length:=by simp)
    (h4:v.ren (outNo m (newIds m v))=r:=by rfl) (h5:s.O.take m++(newIds m v).map (fun id=>s.O.getD id .dead)=O':=by simp [newIds,refsOf,refs2,refs1]) (h6:∀bk∈O',bk.kindIs (fun k=>k != .shal && k.nm)=true:=by simp [Blk.kindIs,fillK_fd]) (h7:v.clean=true:=by rfl):RetOK m s v r O':=ret_all h2 h3 hm h4 h5 h6 h7
theorem v_passB {P:Program} {L:Lend} {s:St} {rg:Array Oper} {K:St→Prop} {o:Oper} {rest:List Oper} {d j:Nat} {want:Bool} (hd:o.dst=some d) (hn:Nat.blt d s.n=true) (hg:o.guard=some (j,want)) (hv:guardV s rg j want=some false) (h:aOps P L rg K rest (s.set (some d) (.opt false .any))):aOps P L rg K (o::rest) s:=
  v_pass d j want hd (by rwa [Nat.blt_eq] at hn) hg hv h
theorem zAlloc {A B:Prop} (b:Ho B) (e:Ho B→A:=by
  intro b;refine v_op ?_;intro K k;simp only [zE,zS,zO,zN,aStepM,optable,set_some,Nat.reduceEqDiff,reduceIte,Nat.reduceLT,implies_true,forall_const,reduceCtorEq,V.ofValue,V.ofScalar,V.un,V.gd,aExec,aop,Nat.reduceAdd,Value.oneCell',V.isVal,V.cells,kindOf,kindAll,V.noSl,V.noRef,List.all_cons,List.all_nil,List.map_cons,List.map_nil,gt_iff_lt,Nat.reduceLeDiff,Nat.reduceMul,contentL,‹Tys _›.h,‹Fc _›.h];repeat (refine andA ?_)
  refine k _ ?_;clear k K;exact b.h):A:=e b
theorem zAppend {A B:Prop} (b:Ho B) (e:Ho B→A:=by
  intro b;refine v_op ?_;intro K k;simp only [zE,zL,zO,zN,aStepM,optable,set_some,Nat.reduceEqDiff,reduceIte,Nat.reduceLT,implies_true,forall_const,reduceCtorEq,V.ofValue,V.ofScalar,V.un,V.gd,aExec,aop,fillK_thin,beq_self_eq_true,List.nodup_cons,List.mem_singleton,forall_eq',List.size_toArray,List.getD_eq_getElem?_getD,Array.getD_eq_getD_getElem?,Option.getD_some,aAppend,destOf,srcOf,takeElems,takeV,takeCell,takeCells,row_mk,Blk.row,killAll,V.isSub,V.noSl,Value.cells,Option.toList,List.forall_mem_map,List.length_map,List.all_cons,List.all_nil,List.isEmpty_nil,List.isEmpty_cons,List.not_mem_nil,List.nodup_nil,join_ff,join_ft,join_fv,join_d,join_s,fillK_join0,fillK_join,List.mem_cons,or_false,forall_eq_or_imp,forall_eq,List.set_cons_zero,List.set_cons_succ,List.length_append,Go.Vm.V.cells,Nat.reduceAdd,Nat.reduceLeDiff,Nat.reduceMul,contentL,Value.oneCell',‹Tys _›.h,‹Fc _›.h];repeat (refine andA ?_)
  refine k _ ?_;clear k K;exact b.h):A:=e b
theorem zAssign {A B:Prop} (b:Ho B) (e:Ho B→A:=by
  intro b;refine v_op ?_;intro K k;simp only [zE,zS,aStepM,optable,set_some,Nat.reduceEqDiff,reduceIte,Nat.reduceLT,implies_true,forall_const,reduceCtorEq,V.ofValue,V.ofScalar,V.un,V.gd,aExec,aop,Nat.reduceAdd,contentL,Value.oneCell',List.all_cons,List.all_nil,Bool.and_self,‹Tys _›.h,‹Fc _›.h];repeat (refine andA ?_)
  refine k _ ?_;clear k K;exact b.h):A:=e b
theorem zBinOp {A B:Prop} (b:Ho B) (e:Ho B→A:=by
  intro b;refine v_op ?_;intro K k;simp only [zE,aStepM,optable,set_some,Nat.reduceEqDiff,reduceIte,Nat.reduceLT,implies_true,forall_const,reduceCtorEq,V.ofValue,V.ofScalar,V.un,V.gd,aExec,aop,aBin,isNil,or_true,true_or,or_false,false_or,EK.fitsL,EK.fits,cellsEq,cellEq,contentL,Value.oneCell',List.all_cons,List.all_nil,Bool.and_self,‹Tys _›.h,‹Fc _›.h];repeat (refine andA ?_)
  refine k _ ?_;clear k K;exact b.h):A:=e b
theorem zBinOpW {A B:Prop} (b:Ho B) (e:Ho B→A:=by
  intro b;refine v_op ?_;intro K k;simp only [zE,aStepM,optable,set_some,Nat.reduceEqDiff,reduceIte,Nat.reduceLT,implies_true,forall_const,reduceCtorEq,V.ofValue,V.ofScalar,V.un,V.gd,aExec,aop,aBin,isNil,or_true,true_or,or_false,false_or,EK.fitsL,EK.fits,cellsEq,cellEq,contentL,Value.oneCell',List.all_cons,List.all_nil,Bool.and_self,‹Tys _›.h,‹Fc _›.h];try simp (disch:=omega) only [wrap64]
  repeat (refine andA ?_)
  refine k _ ?_;clear k K;exact b.h):A:=e b
theorem zgBinOp {A B:Prop} (b:Ho B) (e:Ho B→A:=by
  intro b;first
  | refine v_passB rfl rfl rfl ?_ ?_
    · first | rfl | (simp only [zV,guardV,Nat.reduceEqDiff,reduceIte];done)
    simp only [zW,set_some,Nat.reduceEqDiff,reduceIte]
  | skip
    refine v_op ?_;intro K k;simp only [zE,zG,aStepM,optable,set_some,Nat.reduceEqDiff,reduceIte,Nat.reduceLT,implies_true,forall_const,reduceCtorEq,V.ofValue,V.ofScalar,V.un,V.gd,guardV,V.wrap,aExec,aop,aBin,isNil,or_true,true_or,or_false,false_or,EK.fitsL,EK.fits,cellsEq,cellEq,contentL,Value.oneCell',List.all_cons,List.all_nil,Bool.and_self,‹Tys _›.h,‹Fc _›.h];repeat (refine andA ?_)
    refine k _ ?_;clear k K
  exact b.h):A:=e b
theorem zgBinOpW {A B:Prop} (b:Ho B) (e:Ho B→A:=by
  intro b;first
  | refine v_passB rfl rfl rfl ?_ ?_
    · first | rfl | (simp only [zV,guardV,Nat.reduceEqDiff,reduceIte];done)
    simp only [zW,set_some,Nat.reduceEqDiff,reduceIte]
  | skip
    refine v_op ?_;intro K k;simp only [zE,zG,aStepM,optable,set_some,Nat.reduceEqDiff,reduceIte,Nat.reduceLT,implies_true,forall_const,reduceCtorEq,V.ofValue,V.ofScalar,V.un,V.gd,guardV,V.wrap,aExec,aop,aBin,isNil,or_true,true_or,or_false,false_or,EK.fitsL,EK.fits,cellsEq,cellEq,contentL,Value.oneCell',List.all_cons,List.all_nil,Bool.and_self,‹Tys _›.h,‹Fc _›.h];try simp (disch:=omega) only [wrap64]
    repeat (refine andA ?_)
    refine k _ ?_;clear k K
  exact b.h):A:=e b
theorem zBox {A B:Prop} (b:Ho B) (e:Ho B→A:=by
  intro b;refine v_op ?_;intro K k;simp only [zE,zS,zO,zN,aStepM,optable,set_some,Nat.reduceEqDiff,reduceIte,Nat.reduceLT,implies_true,forall_const,reduceCtorEq,V.ofValue,V.ofScalar,V.un,V.gd,aExec,aop,Nat.reduceAdd,V.isVal,V.cells,kindOf,kindAll,V.noSl,V.noRef,List.all_cons,List.all_nil,List.length_map,gt_iff_lt,Nat.reduceLeDiff,Nat.reduceMul,contentL,Value.oneCell',‹Tys _›.h,‹Fc _›.h];repeat (refine andA ?_)
  refine k _ ?_;clear k K;exact b.h):A:=e b
theorem zBuild {A B:Prop} (b:Ho B) (e:Ho B→A:=by
  intro b;refine v_op ?_;intro K k;simp only [zE,zL,zO,zN,aStepM,optable,set_some,Nat.reduceEqDiff,reduceIte,Nat.reduceLT,implies_true,forall_const,reduceCtorEq,V.ofValue,V.ofScalar,V.un,V.gd,aExec,aop,fillV,if_true,Nat.zero_mul,Nat.one_mul,Nat.mul_one,V.isVal,V.cells,List.mem_cons,List.not_mem_nil,or_false,forall_eq_or_imp,forall_eq,Nat.reduceAdd,Nat.reduceLeDiff,Nat.reduceMul,contentL,Value.oneCell',List.all_cons,List.all_nil,‹Tys _›.h,‹Fc _›.h];repeat (refine andA ?_)
  refine k _ ?_;clear k K;exact b.h):A:=e b
theorem zgBuild {A B:Prop} (b:Ho B) (e:Ho B→A:=by
  intro b;first
  | refine v_passB rfl rfl rfl ?_ ?_
    · first | rfl | (simp only [zV,guardV,Nat.reduceEqDiff,reduceIte];done)
    simp only [zW,set_some,Nat.reduceEqDiff,reduceIte]
  | skip
    refine v_op ?_;intro K k;simp only [zE,zL,zO,zN,aStepM,optable,set_some,Nat.reduceEqDiff,reduceIte,Nat.reduceLT,implies_true,forall_const,reduceCtorEq,V.ofValue,V.ofScalar,V.un,V.gd,guardV,V.wrap,aExec,aop,fillV,if_true,Nat.zero_mul,Nat.one_mul,Nat.mul_one,V.isVal,V.cells,List.mem_cons,List.not_mem_nil,or_false,forall_eq_or_imp,forall_eq,Nat.reduceAdd,Nat.reduceLeDiff,Nat.reduceMul,contentL,Value.oneCell',List.all_cons,List.all_nil,‹Tys _›.h,‹Fc _›.h];repeat (refine andA ?_)
    refine k _ ?_;clear k K
  exact b.h):A:=e b
theorem zBuildSlice {A B:Prop} (b:Ho B) (e:Ho B→A:=by
  intro b;refine v_op ?_;intro K k;simp only [zE,zO,zN,aStepM,optable,set_some,Nat.reduceEqDiff,reduceIte,Nat.reduceLT,implies_true,forall_const,reduceCtorEq,V.ofValue,V.ofScalar,V.un,V.gd,aExec,aop,litElems,rng0,rng1,rng2,rng3,rng4,rng5,rng6,rng7,rng8,rng9,rng10,rng11,rng12,List.map_cons,List.map_nil,List.all_cons,List.all_nil,V.isVal,V.cells,content,contentL,kindAll,V.noRef,V.noSl,List.mem_cons,List.not_mem_nil,or_false,forall_eq_or_imp,forall_eq,if_true,Option.isSome_some,List.length_cons,List.length_nil,Nat.reduceAdd,Nat.reduceLeDiff,Nat.reduceMul,Value.oneCell',‹Tys _›.h,‹Fc _›.h];repeat (refine andA ?_)
  refine k _ ?_;clear k K;exact b.h):A:=e b
theorem zClear {A B:Prop} (b:Ho B) (e:Ho B→A:=by
  intro b;refine v_op ?_;intro K k;simp only [zE,zL,zO,zN,aStepM,optable,set_some,Nat.reduceEqDiff,reduceIte,Nat.reduceLT,implies_true,forall_const,reduceCtorEq,V.ofValue,V.ofScalar,V.un,V.gd,aExec,aop,List.set_cons_zero,List.set_cons_succ,aClear,content,contentL,V.isVal,V.cells,V.noRef,List.size_toArray,List.getD_eq_getElem?_getD,Array.getD_eq_getD_getElem?,Option.getD_some,List.forall_mem_map,List.all_cons,List.all_nil,List.length_map,Value.oneCell',Nat.reduceAdd,Nat.reduceLeDiff,Nat.reduceMul,‹Tys _›.h,‹Fc _›.h];repeat (refine andA ?_)
  refine k _ ?_;clear k K;exact b.h):A:=e b
theorem zConvert {A B:Prop} (b:Ho B) (e:Ho B→A:=by
  intro b;refine v_op ?_;intro K k;simp only [zE,zL,zN,aStepM,optable,set_some,Nat.reduceEqDiff,reduceIte,Nat.reduceLT,implies_true,forall_const,reduceCtorEq,V.ofValue,V.ofScalar,V.un,V.gd,aExec,aop,unByte,row_mk,Blk.row,TypeDesc.slice.injEq,Nat.reduceAdd,Nat.reduceLeDiff,Nat.reduceMul,contentL,Value.oneCell',List.all_cons,List.all_nil,Bool.and_self,‹Tys _›.h,‹Fc _›.h];repeat (refine andA ?_)
  refine k _ ?_;clear k K;exact b.h):A:=e b
theorem zExtract {A B:Prop} (b:Ho B) (e:Ho B→A:=by
  intro b;refine v_op ?_;intro K k;simp only [zE,zL,zN,aStepM,optable,set_some,Nat.reduceEqDiff,reduceIte,Nat.reduceLT,implies_true,forall_const,reduceCtorEq,V.ofValue,V.ofScalar,V.un,V.gd,aExec,aop,aExtract,Nat.reduceAdd,Nat.reduceLeDiff,Nat.reduceMul,contentL,Value.oneCell',List.all_cons,List.all_nil,Bool.and_self,‹Tys _›.h,‹Fc _›.h];repeat (refine andA ?_)
  refine k _ ?_;clear k K;exact b.h):A:=e b
theorem zFieldAddr {A B:Prop} (b:Ho B) (e:Ho B→A:=by
  intro b;refine v_op ?_;intro K k;simp only [zE,zL,zN,aStepM,optable,set_some,Nat.reduceEqDiff,reduceIte,Nat.reduceLT,implies_true,forall_const,reduceCtorEq,V.ofValue,V.ofScalar,V.un,V.gd,aExec,aop,aFieldAddr,Nat.reduceAdd,Nat.reduceLeDiff,Nat.reduceMul,contentL,Value.oneCell',List.all_cons,List.all_nil,Bool.and_self,‹Tys _›.h,‹Fc _›.h];repeat (refine andA ?_)
  refine k _ ?_;clear k K;exact b.h):A:=e b
theorem zgFieldAddr {A B:Prop} (b:Ho B) (e:Ho B→A:=by
  intro b;first
  | refine v_passB rfl rfl rfl ?_ ?_
    · first | rfl | (simp only [zV,guardV,Nat.reduceEqDiff,reduceIte];done)
    simp only [zW,set_some,Nat.reduceEqDiff,reduceIte]
  | skip
    refine v_op ?_;intro K k;simp only [zE,zL,zN,aStepM,optable,set_some,Nat.reduceEqDiff,reduceIte,Nat.reduceLT,implies_true,forall_const,reduceCtorEq,V.ofValue,V.ofScalar,V.un,V.gd,guardV,V.wrap,aExec,aop,aFieldAddr,Nat.reduceAdd,Nat.reduceLeDiff,Nat.reduceMul,contentL,Value.oneCell',List.all_cons,List.all_nil,Bool.and_self,‹Tys _›.h,‹Fc _›.h];repeat (refine andA ?_)
    refine k _ ?_;clear k K
  exact b.h):A:=e b
theorem zIndex {A B:Prop} (b:Ho B) (e:Ho B→A:=by
  intro b;refine v_op ?_;intro K k;simp only [zE,zL,zN,aStepM,optable,set_some,Nat.reduceEqDiff,reduceIte,Nat.reduceLT,implies_true,forall_const,reduceCtorEq,V.ofValue,V.ofScalar,V.un,V.gd,aExec,aop,aIndex,Int.toNat_natCast,Int.reduceToNat,Nat.reduceAdd,Nat.reduceLeDiff,Nat.reduceMul,contentL,Value.oneCell',List.all_cons,List.all_nil,Bool.and_self,‹Tys _›.h,‹Fc _›.h];repeat (refine andA ?_)
  refine k _ ?_;clear k K;exact b.h):A:=e b
theorem zgIndex {A B:Prop} (b:Ho B) (e:Ho B→A:=by
  intro b;first
  | refine v_passB rfl rfl rfl ?_ ?_
    · first | rfl | (simp only [zV,guardV,Nat.reduceEqDiff,reduceIte];done)
    simp only [zW,set_some,Nat.reduceEqDiff,reduceIte]
  | skip
    refine v_op ?_;intro K k;simp only [zE,zL,zN,aStepM,optable,set_some,Nat.reduceEqDiff,reduceIte,Nat.reduceLT,implies_true,forall_const,reduceCtorEq,V.ofValue,V.ofScalar,V.un,V.gd,guardV,V.wrap,aExec,aop,aIndex,Int.toNat_natCast,Int.reduceToNat,Nat.reduceAdd,Nat.reduceLeDiff,Nat.reduceMul,contentL,Value.oneCell',List.all_cons,List.all_nil,Bool.and_self,‹Tys _›.h,‹Fc _›.h];repeat (refine andA ?_)
    refine k _ ?_;clear k K
  exact b.h):A:=e b
theorem zIndexAddr {A B:Prop} (b:Ho B) (e:Ho B→A:=by
  intro b;refine v_op ?_;intro K k;simp only [zE,zL,zN,aStepM,optable,set_some,Nat.reduceEqDiff,reduceIte,Nat.reduceLT,implies_true,forall_const,reduceCtorEq,V.ofValue,V.ofScalar,V.un,V.gd,aExec,aop,List.mem_cons,List.not_mem_nil,or_false,forall_eq_or_imp,forall_eq,aIndexAddr,row_mk,Blk.row,Go.Vm.V.cells,List.forall_mem_map,List.length_map,Int.toNat_natCast,Int.reduceToNat,TypeDesc.slice.injEq,Nat.reduceAdd,Nat.reduceLeDiff,Nat.reduceMul,contentL,Value.oneCell',List.all_cons,List.all_nil,Bool.and_self,‹Tys _›.h,‹Fc _›.h];repeat (refine andA ?_)
  refine k _ ?_;clear k K;exact b.h):A:=e b
theorem zgIndexAddr {A B:Prop} (b:Ho B) (e:Ho B→A:=by
  intro b;first
  | refine v_passB rfl rfl rfl ?_ ?_
    · first | rfl | (simp only [zV,guardV,Nat.reduceEqDiff,reduceIte];done)
    simp only [zW,set_some,Nat.reduceEqDiff,reduceIte]
  | skip
    refine v_op ?_;intro K k;simp only [zE,zL,zN,aStepM,optable,set_some,Nat.reduceEqDiff,reduceIte,Nat.reduceLT,implies_true,forall_const,reduceCtorEq,V.ofValue,V.ofScalar,V.un,V.gd,guardV,V.wrap,aExec,aop,List.mem_cons,List.not_mem_nil,or_false,forall_eq_or_imp,forall_eq,aIndexAddr,row_mk,Blk.row,Go.Vm.V.cells,List.forall_mem_map,List.length_map,Int.toNat_natCast,Int.reduceToNat,TypeDesc.slice.injEq,Nat.reduceAdd,Nat.reduceLeDiff,Nat.reduceMul,contentL,Value.oneCell',List.all_cons,List.all_nil,Bool.and_self,‹Tys _›.h,‹Fc _›.h];repeat (refine andA ?_)
    refine k _ ?_;clear k K
  exact b.h):A:=e b
theorem zLen {A B:Prop} (b:Ho B) (e:Ho B→A:=by
  intro b;refine v_op ?_;intro K k;simp only [zE,zL,zN,aStepM,optable,set_some,Nat.reduceEqDiff,reduceIte,Nat.reduceLT,implies_true,forall_const,reduceCtorEq,V.ofValue,V.ofScalar,V.un,V.gd,aExec,aop,List.length_map,aLen,lenOK,row_mk,Blk.row,List.size_toArray,List.getD_eq_getElem?_getD,Array.getD_eq_getD_getElem?,Option.getD_some,Nat.reduceAdd,Nat.reduceLeDiff,Nat.reduceMul,contentL,Value.oneCell',List.all_cons,List.all_nil,Bool.and_self,‹Tys _›.h,‹Fc _›.h];repeat (refine andA ?_)
  refine k _ ?_;clear k K;exact b.h):A:=e b
theorem zgLen {A B:Prop} (b:Ho B) (e:Ho B→A:=by
  intro b;first
  | refine v_passB rfl rfl rfl ?_ ?_
    · first | rfl | (simp only [zV,guardV,Nat.reduceEqDiff,reduceIte];done)
    simp only [zW,set_some,Nat.reduceEqDiff,reduceIte]
  | skip
    refine v_op ?_;intro K k;simp only [zE,zL,zN,aStepM,optable,set_some,Nat.reduceEqDiff,reduceIte,Nat.reduceLT,implies_true,forall_const,reduceCtorEq,V.ofValue,V.ofScalar,V.un,V.gd,guardV,V.wrap,aExec,aop,List.length_map,aLen,lenOK,row_mk,Blk.row,List.size_toArray,List.getD_eq_getElem?_getD,Array.getD_eq_getD_getElem?,Option.getD_some,Nat.reduceAdd,Nat.reduceLeDiff,Nat.reduceMul,contentL,Value.oneCell',List.all_cons,List.all_nil,Bool.and_self,‹Tys _›.h,‹Fc _›.h];repeat (refine andA ?_)
    refine k _ ?_;clear k K
  exact b.h):A:=e b
theorem zLoad {A B:Prop} (b:Ho B) (e:Ho B→A:=by
  intro b;refine v_op ?_;intro K k;simp only [zE,zL,zO,zN,aStepM,optable,set_some,Nat.reduceEqDiff,reduceIte,Nat.reduceLT,implies_true,forall_const,reduceCtorEq,V.ofValue,V.ofScalar,V.un,V.gd,aExec,aop,aLoad,row_mk,Blk.row,PartOK,Go.Vm.part,V.cells,V.noSl,V.noRef,Nat.reduceAdd,Nat.reduceLeDiff,Nat.reduceMul,contentL,Value.oneCell',List.all_cons,List.all_nil,‹Tys _›.h,‹Fc _›.h];repeat (refine andA ?_)
  refine k _ ?_;clear k K;exact b.h):A:=e b
theorem zgLoad {A B:Prop} (b:Ho B) (e:Ho B→A:=by
  intro b;first
  | refine v_passB rfl rfl rfl ?_ ?_
    · first | rfl | (simp only [zV,guardV,Nat.reduceEqDiff,reduceIte];done)
    simp only [zW,set_some,Nat.reduceEqDiff,reduceIte]
  | skip
    refine v_op ?_;intro K k;simp only [zE,zL,zO,zN,aStepM,optable,set_some,Nat.reduceEqDiff,reduceIte,Nat.reduceLT,implies_true,forall_const,reduceCtorEq,V.ofValue,V.ofScalar,V.un,V.gd,guardV,V.wrap,aExec,aop,aLoad,row_mk,Blk.row,PartOK,Go.Vm.part,V.cells,V.noSl,V.noRef,Nat.reduceAdd,Nat.reduceLeDiff,Nat.reduceMul,contentL,Value.oneCell',List.all_cons,List.all_nil,‹Tys _›.h,‹Fc _›.h];repeat (refine andA ?_)
    refine k _ ?_;clear k K
  exact b.h):A:=e b
theorem zMakeFunc {A B:Prop} (b:Ho B) (e:Ho B→A:=by
  intro b;refine v_op ?_;intro K k;simp only [zE,zL,aStepM,optable,set_some,Nat.reduceEqDiff,reduceIte,Nat.reduceLT,implies_true,forall_const,reduceCtorEq,V.ofValue,V.ofScalar,V.un,V.gd,aExec,aop,contentL,Value.oneCell',List.all_cons,List.all_nil,Bool.and_self,‹Tys _›.h,‹Fc _›.h];repeat (refine andA ?_)
  refine k _ ?_;clear k K;exact b.h):A:=e b
theorem zgMakeFunc {A B:Prop} (b:Ho B) (e:Ho B→A:=by
  intro b;first
  | refine v_passB rfl rfl rfl ?_ ?_
    · first | rfl | (simp only [zV,guardV,Nat.reduceEqDiff,reduceIte];done)
    simp only [zW,set_some,Nat.reduceEqDiff,reduceIte]
  | skip
    refine v_op ?_;intro K k;simp only [zE,zL,aStepM,optable,set_some,Nat.reduceEqDiff,reduceIte,Nat.reduceLT,implies_true,forall_const,reduceCtorEq,V.ofValue,V.ofScalar,V.un,V.gd,guardV,V.wrap,aExec,aop,contentL,Value.oneCell',List.all_cons,List.all_nil,Bool.and_self,‹Tys _›.h,‹Fc _›.h];repeat (refine andA ?_)
    refine k _ ?_;clear k K
  exact b.h):A:=e b
theorem zMakeSlice {A B:Prop} (b:Ho B) (e:Ho B→A:=by
  intro b;refine v_op ?_;intro K k;simp only [zE,zL,zO,zN,aStepM,optable,set_some,Nat.reduceEqDiff,reduceIte,Nat.reduceLT,implies_true,forall_const,reduceCtorEq,V.ofValue,V.ofScalar,V.un,V.gd,aExec,aop,content,V.isVal,V.cells,V.noRef,V.noSl,Int.toNat_natCast,Nat.reduceAdd,Nat.reduceLeDiff,Nat.reduceMul,contentL,Value.oneCell',List.all_cons,List.all_nil,‹Tys _›.h,‹Fc _›.h];repeat (refine andA ?_)
  refine k _ ?_;clear k K;exact b.h):A:=e b
theorem zMax {A B:Prop} (b:Ho B) (e:Ho B→A:=by
  intro b;refine v_op ?_;intro K k;simp only [zE,aStepM,optable,set_some,Nat.reduceEqDiff,reduceIte,Nat.reduceLT,implies_true,forall_const,reduceCtorEq,V.ofValue,V.ofScalar,V.un,V.gd,aExec,aop,aMinMax,List.mem_cons,List.not_mem_nil,or_false,forall_eq_or_imp,forall_eq,List.map_cons,List.map_nil,if_true,if_false,contentL,Value.oneCell',List.all_cons,List.all_nil,Bool.and_self,‹Tys _›.h,‹Fc _›.h];repeat (refine andA ?_)
  refine k _ ?_;clear k K;exact b.h):A:=e b
theorem zMove {A B:Prop} (b:Ho B) (e:Ho B→A:=by
  intro b;refine v_op ?_;intro K k;simp only [zE,aStepM,optable,set_some,Nat.reduceEqDiff,reduceIte,Nat.reduceLT,implies_true,forall_const,reduceCtorEq,V.ofValue,V.ofScalar,V.un,V.gd,aExec,aop,contentL,Value.oneCell',List.all_cons,List.all_nil,Bool.and_self,‹Tys _›.h,‹Fc _›.h];repeat (refine andA ?_)
  refine k _ ?_;clear k K;exact b.h):A:=e b
theorem zgMove {A B:Prop} (b:Ho B) (e:Ho B→A:=by
  intro b;first
  | refine v_passB rfl rfl rfl ?_ ?_
    · first | rfl | (simp only [zV,guardV,Nat.reduceEqDiff,reduceIte];done)
    simp only [zW,set_some,Nat.reduceEqDiff,reduceIte]
  | skip
    refine v_op ?_;intro K k;simp only [zE,zG,aStepM,optable,set_some,Nat.reduceEqDiff,reduceIte,Nat.reduceLT,implies_true,forall_const,reduceCtorEq,V.ofValue,V.ofScalar,V.un,V.gd,guardV,V.wrap,aExec,aop,contentL,Value.oneCell',List.all_cons,List.all_nil,Bool.and_self,‹Tys _›.h,‹Fc _›.h];repeat (refine andA ?_)
    refine k _ ?_;clear k K
  exact b.h):A:=e b
theorem zNilCheck {A B:Prop} (b:Ho B) (e:Ho B→A:=by
  intro b;refine v_op ?_;intro K k;simp only [zE,aStepM,optable,set_some,Nat.reduceEqDiff,reduceIte,Nat.reduceLT,implies_true,forall_const,reduceCtorEq,V.ofValue,V.ofScalar,V.un,V.gd,aExec,aop,contentL,Value.oneCell',List.all_cons,List.all_nil,Bool.and_self,‹Tys _›.h,‹Fc _›.h];repeat (refine andA ?_)
  refine k _ ?_;clear k K;exact b.h):A:=e b
theorem zgNilCheck {A B:Prop} (b:Ho B) (e:Ho B→A:=by
  intro b;first
  | refine v_passB rfl rfl rfl ?_ ?_
    · first | rfl | (simp only [zV,guardV,Nat.reduceEqDiff,reduceIte];done)
    simp only [zW,set_some,Nat.reduceEqDiff,reduceIte]
  | skip
    refine v_op ?_;intro K k;simp only [zE,zG,aStepM,optable,set_some,Nat.reduceEqDiff,reduceIte,Nat.reduceLT,implies_true,forall_const,reduceCtorEq,V.ofValue,V.ofScalar,V.un,V.gd,guardV,V.wrap,aExec,aop,contentL,Value.oneCell',List.all_cons,List.all_nil,Bool.and_self,‹Tys _›.h,‹Fc _›.h];repeat (refine andA ?_)
    refine k _ ?_;clear k K
  exact b.h):A:=e b
theorem zPick {A B:Prop} (b:Ho B) (e:Ho B→A:=by
  intro b;refine v_op ?_;intro K k;simp only [zE,zP,aStepM,optable,set_some,Nat.reduceEqDiff,reduceIte,Nat.reduceLT,implies_true,forall_const,reduceCtorEq,V.ofValue,V.ofScalar,V.un,V.gd,aExec,aop,pickV,contentL,Value.oneCell',List.all_cons,List.all_nil,Bool.and_self,‹Tys _›.h,‹Fc _›.h];repeat (refine andA ?_)
  refine k _ ?_;clear k K;exact b.h):A:=e b
theorem zgPick {A B:Prop} (b:Ho B) (e:Ho B→A:=by
  intro b;first
  | refine v_passB rfl rfl rfl ?_ ?_
    · first | rfl | (simp only [zV,guardV,Nat.reduceEqDiff,reduceIte];done)
    simp only [zW,set_some,Nat.reduceEqDiff,reduceIte]
  | skip
    refine v_op ?_;intro K k;simp only [zE,zP,zG,aStepM,optable,set_some,Nat.reduceEqDiff,reduceIte,Nat.reduceLT,implies_true,forall_const,reduceCtorEq,V.ofValue,V.ofScalar,V.un,V.gd,guardV,V.wrap,aExec,aop,pickV,contentL,Value.oneCell',List.all_cons,List.all_nil,Bool.and_self,‹Tys _›.h,‹Fc _›.h];repeat (refine andA ?_)
    refine k _ ?_;clear k K
  exact b.h):A:=e b
theorem zSlice {A B:Prop} (b:Ho B) (e:Ho B→A:=by
  intro b;refine v_op ?_;intro K k;simp only [zE,zL,zN,aStepM,optable,set_some,Nat.reduceEqDiff,reduceIte,Nat.reduceLT,implies_true,forall_const,reduceCtorEq,V.ofValue,V.ofScalar,V.un,V.gd,aExec,aop,List.set_cons_zero,List.set_cons_succ,aSlice,forall_eq',bound,ElemsOK,Option.map_none,Option.isNone_none,row_mk,Blk.row,TypeDesc.slice.injEq,List.forall_mem_map,List.length_map,Go.Vm.V.cells,Int.toNat_natCast,Int.reduceToNat,←List.map_take,←List.map_drop,List.take_length,Nat.reduceAdd,Nat.reduceLeDiff,Nat.reduceMul,contentL,Value.oneCell',List.all_cons,List.all_nil,Bool.and_self,‹Tys _›.h,‹Fc _›.h];repeat (refine andA ?_)
  refine k _ ?_;clear k K;exact b.h):A:=e b
theorem zStore {A B:Prop} (b:Ho B) (e:Ho B→A:=by
  intro b;refine v_op ?_;intro K k;simp only [zE,zS,zJ,zL,zO,zN,aStepM,optable,set_some,Nat.reduceEqDiff,reduceIte,Nat.reduceLT,implies_true,forall_const,reduceCtorEq,V.ofValue,V.ofScalar,V.un,V.gd,aExec,aop,aStore,setCells,V.isVal,V.cells,kindOf,kindAll,V.noSl,V.noRef,gt_iff_lt,Nat.reduceAdd,Nat.reduceLeDiff,Nat.reduceMul,takeV,takeCell,takeCells,row_mk,Blk.row,killAll,Nat.reduceBEq,join_t,contentL,Value.oneCell',‹Tys _›.h,‹Fc _›.h];repeat (refine andA ?_)
  refine k _ ?_;clear k K;exact b.h):A:=e b
theorem zUnOp {A B:Prop} (b:Ho B) (e:Ho B→A:=by
  intro b;refine v_op ?_;intro K k;simp only [zE,aStepM,optable,set_some,Nat.reduceEqDiff,reduceIte,Nat.reduceLT,implies_true,forall_const,reduceCtorEq,V.ofValue,V.ofScalar,V.un,V.gd,aExec,aop,aUn,contentL,Value.oneCell',List.all_cons,List.all_nil,Bool.and_self,‹Tys _›.h,‹Fc _›.h];repeat (refine andA ?_)
  refine k _ ?_;clear k K;exact b.h):A:=e b
theorem zgUnOp {A B:Prop} (b:Ho B) (e:Ho B→A:=by
  intro b;first
  | refine v_passB rfl rfl rfl ?_ ?_
    · first | rfl | (simp only [zV,guardV,Nat.reduceEqDiff,reduceIte];done)
    simp only [zW,set_some,Nat.reduceEqDiff,reduceIte]
  | skip
    refine v_op ?_;intro K k;simp only [zE,zG,aStepM,optable,set_some,Nat.reduceEqDiff,reduceIte,Nat.reduceLT,implies_true,forall_const,reduceCtorEq,V.ofValue,V.ofScalar,V.un,V.gd,guardV,V.wrap,aExec,aop,aUn,contentL,Value.oneCell',List.all_cons,List.all_nil,Bool.and_self,‹Tys _›.h,‹Fc _›.h];repeat (refine andA ?_)
    refine k _ ?_;clear k K
  exact b.h):A:=e b
theorem zNil {A B:Prop} (b:Ho B) (e:Ho B→A:=by
  intro b;refine v_op ?_;intro K k;simp only [zE,aStepM,optable,set_some,Nat.reduceEqDiff,reduceIte,Nat.reduceLT,implies_true,forall_const,reduceCtorEq,V.ofValue,V.ofScalar,V.un,V.gd,aExec,aop,aBin,isNil,or_true,true_or,or_false,false_or,EK.fitsL,EK.fits,cellsEq,cellEq,aNil,TypeDesc.slice.injEq,nil_eql,nil_neq,contentL,Value.oneCell',List.all_cons,List.all_nil,Bool.and_self,‹Tys _›.h,‹Fc _›.h];repeat (refine andA ?_)
  intro nb hnb;refine k _ ?_;clear k K;revert nb hnb;exact b.h):A:=e b
theorem zk {A B:Prop} (b:Ho B) (e:Ho B→A:=by
  intro b;simp only [keep_mk,keepE_nil,keepE_cons,look_cons,look_nil,Nat.reduceEqDiff,reduceIte];exact b.h):A:=e b
theorem zCl {A B:Prop} (b:Ho B) (e:Ho B→A:=by
  intro b;simp only [zE,zL,zO,zN,aStepM,optable,set_some,Nat.reduceEqDiff,reduceIte,Nat.reduceLT,implies_true,forall_const,reduceCtorEq,V.ofValue,V.ofScalar,V.un,V.gd,aLoad,row_mk,Blk.row,PartOK,Go.Vm.part,V.cells,V.noSl,V.noRef,Nat.reduceAdd,Nat.reduceLeDiff,Nat.reduceMul,‹Tys _›.h];exact b.h):A:=e b
theorem zf {A B:Prop} (b:Ho B) (e:Ho B→A:=by
  intro b;simp only [resK,pickRV,get_mk,look_cons,look_nil,Nat.reduceEqDiff,reduceIte,List.map_cons,List.map_nil];exact b.h):A:=e b
theorem v_condS {P:Program} {L:Lend} {m:Nat} {Q:AEx→St→Prop} {s:St} {c:Operand} {x y:Code} (b:Bool) (hc:s.ev c=.bool b) {p q:Prop} (h1:p→awp P L m x Q s) (h2:q→awp P L m y Q s)
    (hp:b=true→p:=by first | (intro h;simp only [zC,reduceCtorEq] at h;exact h) | exact fun h=>h) (hq:b=false→q:=by first | (intro h;simp only [zC,reduceCtorEq] at h;exact h) | exact fun h=>h):awp P L m (.cond c x y) Q s:=
  v_cond b hc (fun h=>h1 (hp h)) (fun h=>h2 (hq h))
theorem weak_bothS {m:Nat} {s s':St} {B:Prop} (ks ids:List Nat) (b:Ho B) (hn:ids.Nodup:=by decide) (hm:∀j,j < m→ids[j]? =some j:=by simp)
    (he:∀p∈(s.keep ks).env,p.2.only (fun id=>(idx ids id).isSome)=true:=by simp [keep_mk,keepE_nil,keepE_cons,look_cons,V.only,V.onlyL,idx]<;>(first | rfl | decide))
    (hb:∀id∈ids,∀bk,s.O[id]? =some bk→bk.kindIs (fun k=>k.nm)=true:=by simp [Blk.kindIs,fillK_mix,thK_mix])
    (e:Ho B→(s.keep ks).comp ids=s':=by
      intro b;simp only [keep_mk,keepE_nil,keepE_cons,look_cons,look_nil,Nat.reduceEqDiff,reduceIte,St.comp,List.map_cons,List.map_nil,V.ren,V.renL,idx,List.getD_cons_zero,List.getD_cons_succ,Nat.reduceBEq,cond_true,cond_false,Option.map_some,Option.getD_some,Nat.reduceAdd,beq_dec,decide_true,decide_false];exact b.h):Weak m s s':=weak_both ks ids hn hm he hb (e b)
theorem weak_bothC {m:Nat} {s s':St} {B:Prop} (ks ids:List Nat) (b:Ho B) (hn:ids.Nodup:=by decide) (hm:∀j,j < m→ids[j]? =some j:=by simp)
    (he:∀p∈(s.keep ks).env,p.2.only (fun id=>(idx ids id).isSome)=true:=by simp [keep_mk,keepE_nil,keepE_cons,look_cons,V.only,V.onlyL,idx,‹Caps _›.cn]<;>(first | rfl | decide))
    (hb:∀id∈ids,∀bk,s.O[id]? =some bk→bk.kindIs (fun k=>k.nm)=true:=by simp [Blk.kindIs,fillK_mix,thK_mix])
    (e:Ho B→(s.keep ks).comp ids=s':=by
      intro b;simp only [keep_mk,keepE_nil,keepE_cons,look_cons,look_nil,Nat.reduceEqDiff,reduceIte,St.comp,List.map_cons,List.map_nil,V.ren,V.renL,idx,List.getD_cons_zero,List.getD_cons_succ,Nat.reduceBEq,cond_true,cond_false,Option.map_some,Option.getD_some,Nat.reduceAdd,beq_dec,decide_true,decide_false,‹Caps _›.cr];exact b.h):Weak m s s':=weak_both ks ids hn hm he hb (e b)
theorem weak_bothN {m:Nat} {s s':St} {B:Prop} (ks ids:List Nat) (b:Ho B) (hn:ids.Nodup:=by decide) (hm:∀j,j < m→ids[j]? =some j:=by simp)
    (he:∀p∈(s.keep ks).env,p.2.only (fun id=>(idx ids id).isSome)=true:=by simp [keep_mk,keepE_nil,keepE_cons,look_cons,V.only,V.onlyL,idx]<;>(first | rfl | decide))
    (hb:∀id∈ids,∀bk,s.O[id]? =some bk→bk.onlyM (fun id=>(idx ids id).isSome)=true:=by simp [Blk.onlyM,isMix_flat,isMix_deep,isMix_shal,isMix_thin,isMix_mix,isMix_part,isMix_fillK,isMix_thK,V.only,V.onlyL,idx]<;>(first | rfl | decide))
    (e:Ho B→(s.keep ks).compM ids=s':=by
      intro b;simp only [keep_mk,keepE_nil,keepE_cons,look_cons,look_nil,Nat.reduceEqDiff,reduceIte,St.compM,Blk.renM,isMix_flat,isMix_deep,isMix_shal,isMix_thin,isMix_mix,isMix_part,isMix_fillK,isMix_thK,List.map_cons,List.map_nil,V.ren,V.renL,idx,List.getD_cons_zero,List.getD_cons_succ,Nat.reduceBEq,cond_true,cond_false,Option.map_some,Option.getD_some,Nat.reduceAdd,beq_dec,decide_true,decide_false];exact b.h):Weak m s s':=weak_bothM ks ids hn hm he hb (e b)
theorem weak_one {m:Nat} {s:St} (ks ids:List Nat) (hn:ids.Nodup:=by decide) (hm:∀j,j < m→ids[j]? =some j:=by simp)
    (he:∀p∈(s.keep ks).env,p.2.only (fun id=>(idx ids id).isSome)=true:=by simp [keep_mk,keepE_nil,keepE_cons,look_cons,V.only,V.onlyL,idx]<;>(first | rfl | decide))
    (hb:∀id∈ids,∀bk,s.O[id]? =some bk→bk.onlyM (fun id=>(idx ids id).isSome)=true:=by simp [Blk.onlyM,isMix_flat,isMix_deep,isMix_shal,isMix_thin,isMix_mix,isMix_part,isMix_fillK,isMix_thK,V.only,V.onlyL,idx]<;>(first | rfl | decide)):Weak m s ((s.keep ks).compM ids):=weak_bothM ks ids hn hm he hb rfl
theorem weak_same {m:Nat} {s s':St} (ks ids:List Nat) (hn:ids.Nodup:=by decide) (hm:∀j,j < m→ids[j]? =some j:=by simp)
    (he:∀p∈(s.keep ks).env,p.2.only (fun id=>(idx ids id).isSome)=true:=by simp [keep_mk,keepE_nil,keepE_cons,look_cons,V.only,V.onlyL,idx]<;>(first | rfl | decide))
    (hb:∀id∈ids,∀bk,s.O[id]? =some bk→bk.onlyM (fun id=>(idx ids id).isSome)=true:=by simp [Blk.onlyM,isMix_flat,isMix_deep,isMix_shal,isMix_thin,isMix_mix,isMix_part,isMix_fillK,isMix_thK,V.only,V.onlyL,idx]<;>(first | rfl | decide))
    (e:(s.keep ks).compM ids=s':=by first | (simp only [keep_mk,keepE_nil,keepE_cons,look_cons,look_nil,Nat.reduceEqDiff,reduceIte,St.compM,Blk.renM,isMix_flat,isMix_deep,isMix_shal,isMix_thin,isMix_mix,isMix_part,isMix_fillK,isMix_thK,List.map_cons,List.map_nil,V.ren,V.renL,idx,List.getD_cons_zero,List.getD_cons_succ,Nat.reduceBEq,cond_true,cond_false,Option.map_some,Option.getD_some,Nat.reduceAdd,beq_dec,decide_true,decide_false];done) | rfl):Weak m s s':=weak_bothM ks ids hn hm he hb e
theorem zkm {A B:Prop} (b:Ho B) (e:Ho B→A:=by
  intro b;simp only [keep_mk,keepE_nil,keepE_cons,look_cons,look_nil,Nat.reduceEqDiff,reduceIte,St.compM,Blk.renM,isMix_flat,isMix_deep,isMix_shal,isMix_thin,isMix_mix,isMix_part,isMix_fillK,isMix_thK,List.map_cons,List.map_nil,V.ren,V.renL,idx,List.getD_cons_zero,List.getD_cons_succ,Nat.reduceBEq,cond_true,cond_false,Option.map_some,Option.getD_some,Nat.reduceAdd,beq_dec,decide_true,decide_false];exact b.h):A:=e b
theorem zc {C A B:Prop} (con:C) (b:Ho B) (e:C→Ho B→A:=by
  intro con b;refine v_op ?_;intro K k;simp only [zE,zM,aStepM,optable,set_some,Nat.reduceEqDiff,reduceIte,Nat.reduceLT,implies_true,forall_const,reduceCtorEq,V.ofValue,V.ofScalar,V.un,V.gd,aExec,lentIds,lendOf,‹Tys _›.h,‹Fc _›.h];repeat (refine andC ?_)
  refine aCall_new con (by first | rfl | (simp only [toArgs,toArg,toCell,toCells,toRows,Option.map_some,idx,row_mk,List.getElem?_cons_zero,List.getElem?_cons_succ,Option.bind_some,Blk.row,fillK_mix,thK_mix,flat_mix,deep_mix,thin_mix,shal_mix,cond_true,List.map_take];done) | (simp [toArgs,toArg,toCell,toCells,toRows,idx,row_mk,Blk.row,fillK_mix,thK_mix,flat_mix,deep_mix,thin_mix,shal_mix,Nat.beq_refl];done)) (by first | exact .inl ⟨rfl,by simp [Blk.kindIs,fillK_fd,thK_fd]⟩ | exact .inr (by simp [V.cold])) ?_;refine k _ ?_;clear k K;simp only [zY,zW,set_some,Nat.reduceEqDiff,reduceIte,V.ren,V.renL,rho,Nat.reduceAdd];exact b.h):A:=e con b
theorem zcl {C A B:Prop} (con:C) (b:Ho B) (e:C→Ho B→A:=by
  intro con b;refine v_op ?_;intro K k;simp only [zE,zM,aStepM,optable,set_some,Nat.reduceEqDiff,reduceIte,Nat.reduceLT,implies_true,forall_const,reduceCtorEq,V.ofValue,V.ofScalar,V.un,V.gd,aExec,lentIds,lendOf,‹Tys _›.h,‹Fc _›.h];repeat (refine andC ?_)
  refine aCall_lent _ con (by first | rfl | (simp only [toArgs,toArg,toCell,toCells,toRows,Option.map_some,idx,row_mk,List.getElem?_cons_zero,List.getElem?_cons_succ,Option.bind_some,Blk.row,fillK_mix,thK_mix,flat_mix,deep_mix,thin_mix,shal_mix,cond_true,List.map_take];done) | (simp [toArgs,toArg,toCell,toCells,toRows,idx,row_mk,Blk.row,fillK_mix,thK_mix,flat_mix,deep_mix,thin_mix,shal_mix,Nat.beq_refl];done)) (by rfl) ⟨by simp [Blk.kindIs,fillK_mix,thK_mix],by simp⟩ (by first | exact .inl rfl | exact .inr (by simp [Blk.kindIs])) ⟨rfl,by simp [Blk.kindIs,fillK_fd,thK_fd]⟩ ?_;refine k _ ?_;clear k K;simp only [zY,zW,set_some,Nat.reduceEqDiff,reduceIte,rho_one,rho_s,V.ren,V.renL,List.set_cons_zero,List.set_cons_succ,Nat.reduceAdd];exact b.h):A:=e con b
theorem zcc {C A B:Prop} (con:C) (b:Ho B) (e:C→Ho B→A:=by
  intro con b;refine v_op ?_;intro K k;simp only [zE,zM,aStepM,optable,set_some,Nat.reduceEqDiff,reduceIte,Nat.reduceLT,implies_true,forall_const,reduceCtorEq,V.ofValue,V.ofScalar,V.un,V.gd,aExec,lentIds,lendOf,‹Tys _›.h,‹Fc _›.h];repeat (refine andC ?_)
  refine aCall_new con (by first | rfl | (simp only [toArgs,toArg,toCell,toCells,toRows,Option.map_some,idx,row_mk,List.getElem?_cons_zero,List.getElem?_cons_succ,Option.bind_some,Blk.row,fillK_mix,thK_mix,flat_mix,deep_mix,thin_mix,shal_mix,cond_true,List.map_take,‹Caps _›.cc,‹Caps _›.ca];done) | (simp [toArgs,toArg,toCell,toCells,toRows,idx,row_mk,Blk.row,fillK_mix,thK_mix,flat_mix,deep_mix,thin_mix,shal_mix,Nat.beq_refl,‹Caps _›.cc,‹Caps _›.ca];done)) (by first | exact .inl ⟨rfl,by simp [Blk.kindIs,fillK_fd,thK_fd]⟩ | exact .inr (by simp [V.cold])) ?_;refine k _ ?_;clear k K;simp only [zY,zW,set_some,Nat.reduceEqDiff,reduceIte,V.ren,V.renL,rho,Nat.reduceAdd];exact b.h):A:=e con b
theorem zcl3 {C A B:Prop} (con:C) (b:Ho B) (e:C→Ho B→A:=by
  intro con b;refine v_op ?_;intro K k;simp only [zE,zM,aStepM,optable,set_some,Nat.reduceEqDiff,reduceIte,Nat.reduceLT,implies_true,forall_const,reduceCtorEq,V.ofValue,V.ofScalar,V.un,V.gd,aExec,lentIds,lendOf,‹Tys _›.h,‹Fc _›.h];repeat (refine andC ?_)
  refine aCall_lent3 _ _ _ con (by first | rfl | (simp only [toArgs,toArg,toCell,toCells,toRows,Option.map_some,idx,row_mk,List.getElem?_cons_zero,List.getElem?_cons_succ,Option.bind_some,Blk.row,fillK_mix,thK_mix,flat_mix,deep_mix,thin_mix,shal_mix,cond_true,List.map_take];done) | (simp [toArgs,toArg,toCell,toCells,toRows,idx,row_mk,Blk.row,fillK_mix,thK_mix,flat_mix,deep_mix,thin_mix,shal_mix,Nat.beq_refl];done)) (by rfl) (by rfl) (by rfl) (by decide) (by simp [Blk.kindIs,fillK_mix,thK_mix]) (by first | exact .inl rfl | exact .inr (by simp [Blk.kindIs])) ⟨rfl,by simp [Blk.kindIs,fillK_fd,thK_fd]⟩ ?_;refine k _ ?_;clear k K;simp only [zY,zW,set_some,Nat.reduceEqDiff,reduceIte,rho3_0,rho3_1,rho3_2,rho3_s,V.ren,V.renL,List.set_cons_zero,List.set_cons_succ,Nat.reduceAdd,Nat.add_zero];exact b.h):A:=e con b
theorem zgc {C A B:Prop} (con:C) (b:Ho B) (e:C→Ho B→A:=by
  intro con b;first
  | refine v_passB rfl rfl rfl ?_ ?_
    · first | rfl | (simp only [zV,guardV,Nat.reduceEqDiff,reduceIte];done)
    simp only [zW,set_some,Nat.reduceEqDiff,reduceIte]
  | skip
    refine v_op ?_;intro K k;simp only [zE,zG,aStepM,optable,set_some,Nat.reduceEqDiff,reduceIte,Nat.reduceLT,implies_true,forall_const,reduceCtorEq,V.ofValue,V.ofScalar,V.un,V.gd,guardV,‹Tys _›.h,‹Fc _›.h];simp only [zM,zW,aExec,lentIds,lendOf,set_some,Nat.reduceEqDiff,reduceIte,V.ofValue,V.ofScalar,V.un,V.gd,and_true,true_and,implies_true,and_self,decide_eq_true_eq];first | refine Exists.imp (fun r h=>h) (aCall_guardT con (by first | rfl | (simp only [toArgs,toArg,toCell,toCells,toRows,Option.map_some,idx,row_mk,List.getElem?_cons_zero,List.getElem?_cons_succ,Option.bind_some,Blk.row,fillK_mix,thK_mix,flat_mix,deep_mix,thin_mix,shal_mix,cond_true,List.map_take];done) | (simp [toArgs,toArg,toCell,toCells,toRows,idx,row_mk,Blk.row,fillK_mix,thK_mix,flat_mix,deep_mix,thin_mix,shal_mix,Nat.beq_refl];done)) rfl rfl ?_) | refine Exists.imp (fun r h=>h) (aCall_guard0 (fun hg=>con) (by first | rfl | (simp only [toArgs,toArg,toCell,toCells,toRows,Option.map_some,idx,row_mk,List.getElem?_cons_zero,List.getElem?_cons_succ,Option.bind_some,Blk.row,fillK_mix,thK_mix,flat_mix,deep_mix,thin_mix,shal_mix,cond_true,List.map_take];done) | (simp [toArgs,toArg,toCell,toCells,toRows,idx,row_mk,Blk.row,fillK_mix,thK_mix,flat_mix,deep_mix,thin_mix,shal_mix,Nat.beq_refl];done)) rfl rfl ?_) | refine Exists.imp (fun r h=>h) (aCall_guard (by first | (intros;trivial) | (intros;simp_all;done)) (fun hg=>con) (by first | rfl | (simp only [toArgs,toArg,toCell,toCells,toRows,Option.map_some,idx,row_mk,List.getElem?_cons_zero,List.getElem?_cons_succ,Option.bind_some,Blk.row,fillK_mix,thK_mix,flat_mix,deep_mix,thin_mix,shal_mix,cond_true,List.map_take];done) | (simp [toArgs,toArg,toCell,toCells,toRows,idx,row_mk,Blk.row,fillK_mix,thK_mix,flat_mix,deep_mix,thin_mix,shal_mix,Nat.beq_refl];done)) rfl rfl ?_)
    refine k _ ?_;clear k K
  exact b.h):A:=e con b
theorem zsAlloc {A B:Prop} (b:Ho B) (e:Ho B→A:=by
  intro b;intro K k;simp only [zE,zS,zO,zN,aStepM,optable,set_some,Nat.reduceEqDiff,reduceIte,Nat.reduceLT,implies_true,forall_const,reduceCtorEq,V.ofValue,V.ofScalar,V.un,V.gd,aExec,aop,Nat.reduceAdd,Value.oneCell',V.isVal,V.cells,kindOf,kindAll,V.noSl,V.noRef,List.all_cons,List.all_nil,List.map_cons,List.map_nil,gt_iff_lt,Nat.reduceLeDiff,Nat.reduceMul,contentL,‹Tys _›.h,‹Fc _›.h];repeat (refine andA ?_)
  refine k _ ?_;clear k K;exact b.h):A:=e b
theorem zsBuildSlice {A B:Prop} (b:Ho B) (e:Ho B→A:=by
  intro b;intro K k;simp only [zE,zO,zN,aStepM,optable,set_some,Nat.reduceEqDiff,reduceIte,Nat.reduceLT,implies_true,forall_const,reduceCtorEq,V.ofValue,V.ofScalar,V.un,V.gd,aExec,aop,litElems,rng0,rng1,rng2,rng3,rng4,rng5,rng6,rng7,rng8,rng9,rng10,rng11,rng12,List.map_cons,List.map_nil,List.all_cons,List.all_nil,V.isVal,V.cells,content,contentL,kindAll,V.noRef,V.noSl,List.mem_cons,List.not_mem_nil,or_false,forall_eq_or_imp,forall_eq,if_true,Option.isSome_some,List.length_cons,List.length_nil,Nat.reduceAdd,Nat.reduceLeDiff,Nat.reduceMul,Value.oneCell',‹Tys _›.h,‹Fc _›.h];repeat (refine andA ?_)
  refine k _ ?_;clear k K;exact b.h):A:=e b
theorem zsAppend {A B:Prop} (b:Ho B) (e:Ho B→A:=by
  intro b;intro K k;simp only [zE,zL,zO,zN,aStepM,optable,set_some,Nat.reduceEqDiff,reduceIte,Nat.reduceLT,implies_true,forall_const,reduceCtorEq,V.ofValue,V.ofScalar,V.un,V.gd,aExec,aop,fillK_thin,beq_self_eq_true,List.nodup_cons,List.mem_singleton,forall_eq',List.size_toArray,List.getD_eq_getElem?_getD,Array.getD_eq_getD_getElem?,Option.getD_some,aAppend,destOf,srcOf,takeElems,takeV,takeCell,takeCells,row_mk,Blk.row,killAll,V.isSub,V.noSl,Value.cells,Option.toList,List.forall_mem_map,List.length_map,List.all_cons,List.all_nil,List.isEmpty_nil,List.isEmpty_cons,List.not_mem_nil,List.nodup_nil,join_ff,join_ft,join_fv,join_d,join_s,fillK_join0,fillK_join,List.mem_cons,or_false,forall_eq_or_imp,forall_eq,List.set_cons_zero,List.set_cons_succ,List.length_append,Go.Vm.V.cells,Nat.reduceAdd,Nat.reduceLeDiff,Nat.reduceMul,contentL,Value.oneCell',‹Tys _›.h,‹Fc _›.h];repeat (refine andA ?_)
  refine k _ ?_;clear k K;exact b.h):A:=e b
theorem zsLoad {A B:Prop} (b:Ho B) (e:Ho B→A:=by
  intro b;intro K k;simp only [zE,zL,zO,zN,aStepM,optable,set_some,Nat.reduceEqDiff,reduceIte,Nat.reduceLT,implies_true,forall_const,reduceCtorEq,V.ofValue,V.ofScalar,V.un,V.gd,aExec,aop,aLoad,row_mk,Blk.row,PartOK,Go.Vm.part,V.cells,V.noSl,V.noRef,Nat.reduceAdd,Nat.reduceLeDiff,Nat.reduceMul,contentL,Value.oneCell',List.all_cons,List.all_nil,‹Tys _›.h,‹Fc _›.h];repeat (refine andA ?_)
  refine k _ ?_;clear k K;exact b.h):A:=e b
theorem zsc {C A B:Prop} (con:C) (b:Ho B) (e:C→Ho B→A:=by
  intro con b K k;simp only [zE,zM,aStepM,optable,set_some,Nat.reduceEqDiff,reduceIte,Nat.reduceLT,implies_true,forall_const,reduceCtorEq,V.ofValue,V.ofScalar,V.un,V.gd,aExec,lentIds,lendOf,‹Tys _›.h,‹Fc _›.h];repeat (refine andC ?_)
  refine aCall_new con (by first | rfl | (simp only [toArgs,toArg,toCell,toCells,toRows,Option.map_some,idx,row_mk,List.getElem?_cons_zero,List.getElem?_cons_succ,Option.bind_some,Blk.row,fillK_mix,thK_mix,flat_mix,deep_mix,thin_mix,shal_mix,cond_true,List.map_take];done) | (simp [toArgs,toArg,toCell,toCells,toRows,idx,row_mk,Blk.row,fillK_mix,thK_mix,flat_mix,deep_mix,thin_mix,shal_mix,Nat.beq_refl];done)) (by first | exact .inl ⟨rfl,by simp [Blk.kindIs,fillK_fd,thK_fd]⟩ | exact .inr (by simp [V.cold])) ?_;refine k _ ?_;clear k K;simp only [zY,zW,set_some,Nat.reduceEqDiff,reduceIte,V.ren,V.renL,rho,Nat.reduceAdd];exact b.h):A:=e con b
theorem row_all {O:List Blk} {t:St} (h:Grow O t.O):∀i,(O[i]?).isSome=true→t.row i=(O[i]?).bind Blk.row:=by
  intro i hi;unfold St.row;cases hb:O[i]? with
  | none=>rw [hb] at hi;cases hi
  | some b=>rw [h i b hb]
theorem zdMove {P:Program} {L:Lend} {rg:Array Oper} {K:St→Prop} {fuel:Nat} {listed:Array Bool} {env:List (Nat×V)} {O:List Blk} {vw:Bool} {n m:Nat} {oi:Oper} {rest:List Oper} {v:V} (hK:∀s t,EqS s t→K s→K t) (kp:Bool) (i d:Nat)
    (b:aAny P L rg K fuel (listed.setIfInBounds i true) ⟨(d,v)::env,O,vw,n,m⟩) (hi:rg.toList.drop i=oi::rest:=by rfl) (hd:oi.dst=some d:=by rfl) (hf:Region.freeG L kp rg listed i=true:=by kernel_rfl) (hr:(Region.ready .any rg listed).contains i=true:=by kernel_rfl)
    (hp:PureH P L rg kp oi d v ⟨env,O,vw,n,m⟩:=by
      intro t hn gx ho K' k';dsimp only at hn;refine .inl ?_;simp (disch:=first | decide | rfl) only [gx,zE,aStepM,optable,Nat.reduceEqDiff,reduceIte,Nat.reduceLT,implies_true,forall_const,reduceCtorEq,V.ofValue,V.ofScalar,V.un,V.gd,aExec,aop,contentL,Value.oneCell',List.all_cons,List.all_nil,Bool.and_self,‹Tys _›.h,‹Fc _›.h];repeat (refine andA ?_)
      exact k'):aAny P L rg K (fuel+1) listed ⟨env,O,vw,n,m⟩:=aAny_take hK kp i d hi hd hf hr ⟨v,hp,b⟩
theorem zdgMove {P:Program} {L:Lend} {rg:Array Oper} {K:St→Prop} {fuel:Nat} {listed:Array Bool} {env:List (Nat×V)} {O:List Blk} {vw:Bool} {n m:Nat} {oi:Oper} {rest:List Oper} {v:V} (hK:∀s t,EqS s t→K s→K t) (kp:Bool) (i d:Nat)
    (b:aAny P L rg K fuel (listed.setIfInBounds i true) ⟨(d,v)::env,O,vw,n,m⟩) (hi:rg.toList.drop i=oi::rest:=by rfl) (hd:oi.dst=some d:=by rfl) (hf:Region.freeG L kp rg listed i=true:=by kernel_rfl) (hr:(Region.ready .any rg listed).contains i=true:=by kernel_rfl)
    (hp : PureH P L rg kp oi d v ⟨env,O,vw,n,m⟩:=by
      intro t hn gx ho K' k';dsimp only at hn;first
      | refine .inr (.inl ⟨?_,_,_,false,rfl,?_,nofun,fun _=>⟨.any,k'⟩⟩)
        · simp only [hn,dst_some,Nat.reduceLT]
        · first | rfl | (simp (disch:=decide) only [gx,zV,guardV,Nat.reduceEqDiff,reduceIte];done)
      | skip
        refine .inl ?_;simp (disch:=first | decide | rfl) only [gx,zE,zG,aStepM,optable,Nat.reduceEqDiff,reduceIte,Nat.reduceLT,implies_true,forall_const,reduceCtorEq,V.ofValue,V.ofScalar,V.un,V.gd,guardV,V.wrap,aExec,aop,contentL,Value.oneCell',List.all_cons,List.all_nil,Bool.and_self,‹Tys _›.h,‹Fc _›.h];repeat (refine andA ?_)
        exact k'):aAny P L rg K (fuel+1) listed ⟨env,O,vw,n,m⟩:=aAny_take hK kp i d hi hd hf hr ⟨v,hp,b⟩
theorem zdPick {P:Program} {L:Lend} {rg:Array Oper} {K:St→Prop} {fuel:Nat} {listed:Array Bool} {env:List (Nat×V)} {O:List Blk} {vw:Bool} {n m:Nat} {oi:Oper} {rest:List Oper} {v:V} (hK:∀s t,EqS s t→K s→K t) (kp:Bool) (i d:Nat)
    (b:aAny P L rg K fuel (listed.setIfInBounds i true) ⟨(d,v)::env,O,vw,n,m⟩) (hi:rg.toList.drop i=oi::rest:=by rfl) (hd:oi.dst=some d:=by rfl) (hf:Region.freeG L kp rg listed i=true:=by kernel_rfl) (hr:(Region.ready .any rg listed).contains i=true:=by kernel_rfl)
    (hp:PureH P L rg kp oi d v ⟨env,O,vw,n,m⟩:=by
      intro t hn gx ho K' k';dsimp only at hn;refine .inl ?_;simp (disch:=first | decide | rfl) only [gx,zE,zP,aStepM,optable,Nat.reduceEqDiff,reduceIte,Nat.reduceLT,implies_true,forall_const,reduceCtorEq,V.ofValue,V.ofScalar,V.un,V.gd,aExec,aop,pickV,contentL,Value.oneCell',List.all_cons,List.all_nil,Bool.and_self,‹Tys _›.h,‹Fc _›.h];repeat (refine andA ?_)
      exact k'):aAny P L rg K (fuel+1) listed ⟨env,O,vw,n,m⟩:=aAny_take hK kp i d hi hd hf hr ⟨v,hp,b⟩
theorem zdgPick {P:Program} {L:Lend} {rg:Array Oper} {K:St→Prop} {fuel:Nat} {listed:Array Bool} {env:List (Nat×V)} {O:List Blk} {vw:Bool} {n m:Nat} {oi:Oper} {rest:List Oper} {v:V} (hK:∀s t,EqS s t→K s→K t) (kp:Bool) (i d:Nat)
    (b:aAny P L rg K fuel (listed.setIfInBounds i true) ⟨(d,v)::env,O,vw,n,m⟩) (hi:rg.toList.drop i=oi::rest:=by rfl) (hd:oi.dst=some d:=by rfl) (hf:Region.freeG L kp rg listed i=true:=by kernel_rfl) (hr:(Region.ready .any rg listed).contains i=true:=by kernel_rfl)
    (hp : PureH P L rg kp oi d v ⟨env,O,vw,n,m⟩:=by
      intro t hn gx ho K' k';dsimp only at hn;first
      | refine .inr (.inl ⟨?_,_,_,false,rfl,?_,nofun,fun _=>⟨.any,k'⟩⟩)
        · simp only [hn,dst_some,Nat.reduceLT]
        · first | rfl | (simp (disch:=decide) only [gx,zV,guardV,Nat.reduceEqDiff,reduceIte];done)
      | skip
        refine .inl ?_;simp (disch:=first | decide | rfl) only [gx,zE,zP,zG,aStepM,optable,Nat.reduceEqDiff,reduceIte,Nat.reduceLT,implies_true,forall_const,reduceCtorEq,V.ofValue,V.ofScalar,V.un,V.gd,guardV,V.wrap,aExec,aop,pickV,contentL,Value.oneCell',List.all_cons,List.all_nil,Bool.and_self,‹Tys _›.h,‹Fc _›.h];repeat (refine andA ?_)
        exact k'):aAny P L rg K (fuel+1) listed ⟨env,O,vw,n,m⟩:=aAny_take hK kp i d hi hd hf hr ⟨v,hp,b⟩
theorem zdLoad {P:Program} {L:Lend} {rg:Array Oper} {K:St→Prop} {fuel:Nat} {listed:Array Bool} {env:List (Nat×V)} {O:List Blk} {vw:Bool} {n m:Nat} {oi:Oper} {rest:List Oper} {v:V} (hK:∀s t,EqS s t→K s→K t) (kp:Bool) (i d:Nat)
    (b:aAny P L rg K fuel (listed.setIfInBounds i true) ⟨(d,v)::env,O,vw,n,m⟩) (hi:rg.toList.drop i=oi::rest:=by rfl) (hd:oi.dst=some d:=by rfl) (hf:Region.freeG L kp rg listed i=true:=by kernel_rfl) (hr:(Region.ready .any rg listed).contains i=true:=by kernel_rfl)
    (hp:PureH P L rg kp oi d v ⟨env,O,vw,n,m⟩:=by
      intro t hn gx ho K' k';dsimp only at hn;first | have r0:=row_all (ho rfl) 0 rfl | have r0:=True.intro
      first | have r1:=row_all (ho rfl) 1 rfl | have r1:=True.intro
      first | have r2:=row_all (ho rfl) 2 rfl | have r2:=True.intro
      first | have r3:=row_all (ho rfl) 3 rfl | have r3:=True.intro
      first | have r4:=row_all (ho rfl) 4 rfl | have r4:=True.intro
      first | have r5:=row_all (ho rfl) 5 rfl | have r5:=True.intro
      refine .inl ?_;simp (disch:=first | decide | rfl) only [gx,r0,r1,r2,r3,r4,r5,zE,zL,zO,zN,aStepM,optable,Nat.reduceEqDiff,reduceIte,Nat.reduceLT,implies_true,forall_const,reduceCtorEq,V.ofValue,V.ofScalar,V.un,V.gd,aExec,aop,aLoad,row_mk,Blk.row,PartOK,Go.Vm.part,V.cells,V.noSl,V.noRef,Nat.reduceAdd,Nat.reduceLeDiff,Nat.reduceMul,contentL,Value.oneCell',List.all_cons,List.all_nil,‹Tys _›.h,‹Fc _›.h];repeat (refine andA ?_)
      exact k'):aAny P L rg K (fuel+1) listed ⟨env,O,vw,n,m⟩:=aAny_take hK kp i d hi hd hf hr ⟨v,hp,b⟩
theorem zdLoadX {P:Program} {L:Lend} {rg:Array Oper} {K:St→Prop} {fuel:Nat} {listed:Array Bool} {env:List (Nat×V)} {O:List Blk} {vw:Bool} {n m:Nat} {oi:Oper} {rest:List Oper} {v:V} (hK:∀s t,EqS s t→K s→K t) (kp:Bool) (i d:Nat)
    (b:aAny P L rg K fuel (listed.setIfInBounds i true) ⟨(d,v)::env,O,vw,n,m⟩) (hi:rg.toList.drop i=oi::rest:=by rfl) (hd:oi.dst=some d:=by rfl) (hf:Region.freeG L kp rg listed i=true:=by kernel_rfl) (hr:(Region.ready .any rg listed).contains i=true:=by kernel_rfl)
    (hp:PureH P L rg kp oi d v ⟨env,O,vw,n,m⟩:=by
      intro t hn gx ho K' k';dsimp only at hn;first | have r0:=row_all (ho rfl) 0 rfl | have r0:=True.intro
      first | have r1:=row_all (ho rfl) 1 rfl | have r1:=True.intro
      first | have r2:=row_all (ho rfl) 2 rfl | have r2:=True.intro
      first | have r3:=row_all (ho rfl) 3 rfl | have r3:=True.intro
      first | have r4:=row_all (ho rfl) 4 rfl | have r4:=True.intro
      first | have r5:=row_all (ho rfl) 5 rfl | have r5:=True.intro
      first | have r6:=row_all (ho rfl) 6 rfl | have r6:=True.intro
      first | have r7:=row_all (ho rfl) 7 rfl | have r7:=True.intro
      first | have r8:=row_all (ho rfl) 8 rfl | have r8:=True.intro
      first | have r9:=row_all (ho rfl) 9 rfl | have r9:=True.intro
      first | have r10:=row_all (ho rfl) 10 rfl | have r10:=True.intro
      first | have r11:=row_all (ho rfl) 11 rfl | have r11:=True.intro
      first | have r12:=row_all (ho rfl) 12 rfl | have r12:=True.intro
      first | have r13:=row_all (ho rfl) 13 rfl | have r13:=True.intro
      first | have r14:=row_all (ho rfl) 14 rfl | have r14:=True.intro
      first | have r15:=row_all (ho rfl) 15 rfl | have r15:=True.intro
      first | have r16:=row_all (ho rfl) 16 rfl | have r16:=True.intro
      first | have r17:=row_all (ho rfl) 17 rfl | have r17:=True.intro
      first | have r18:=row_all (ho rfl) 18 rfl | have r18:=True.intro
      first | have r19:=row_all (ho rfl) 19 rfl | have r19:=True.intro
      first | have r20:=row_all (ho rfl) 20 rfl | have r20:=True.intro
      first | have r21:=row_all (ho rfl) 21 rfl | have r21:=True.intro
      first | have r22:=row_all (ho rfl) 22 rfl | have r22:=True.intro
      first | have r23:=row_all (ho rfl) 23 rfl | have r23:=True.intro
      refine .inl ?_;simp (disch:=first | decide | rfl) only [gx,r0,r1,r2,r3,r4,r5,zE,zL,zO,zN,r6,r7,r8,r9,r10,r11,r12,r13,r14,r15,r16,r17,r18,r19,r20,r21,r22,r23,aStepM,optable,Nat.reduceEqDiff,reduceIte,Nat.reduceLT,implies_true,forall_const,reduceCtorEq,V.ofValue,V.ofScalar,V.un,V.gd,aExec,aop,aLoad,row_mk,Blk.row,PartOK,Go.Vm.part,V.cells,V.noSl,V.noRef,Nat.reduceAdd,Nat.reduceLeDiff,Nat.reduceMul,contentL,Value.oneCell',List.all_cons,List.all_nil,‹Tys _›.h,‹Fc _›.h];repeat (refine andA ?_)
      exact k'):aAny P L rg K (fuel+1) listed ⟨env,O,vw,n,m⟩:=aAny_take hK kp i d hi hd hf hr ⟨v,hp,b⟩
theorem zdgLoad {P:Program} {L:Lend} {rg:Array Oper} {K:St→Prop} {fuel:Nat} {listed:Array Bool} {env:List (Nat×V)} {O:List Blk} {vw:Bool} {n m:Nat} {oi:Oper} {rest:List Oper} {v:V} (hK:∀s t,EqS s t→K s→K t) (kp:Bool) (i d:Nat)
    (b:aAny P L rg K fuel (listed.setIfInBounds i true) ⟨(d,v)::env,O,vw,n,m⟩) (hi:rg.toList.drop i=oi::rest:=by rfl) (hd:oi.dst=some d:=by rfl) (hf:Region.freeG L kp rg listed i=true:=by kernel_rfl) (hr:(Region.ready .any rg listed).contains i=true:=by kernel_rfl)
    (hp : PureH P L rg kp oi d v ⟨env,O,vw,n,m⟩:=by
      intro t hn gx ho K' k';dsimp only at hn;first | have r0:=row_all (ho rfl) 0 rfl | have r0:=True.intro
      first | have r1:=row_all (ho rfl) 1 rfl | have r1:=True.intro
      first | have r2:=row_all (ho rfl) 2 rfl | have r2:=True.intro
      first | have r3:=row_all (ho rfl) 3 rfl | have r3:=True.intro
      first | have r4:=row_all (ho rfl) 4 rfl | have r4:=True.intro
      first | have r5:=row_all (ho rfl) 5 rfl | have r5:=True.intro
      first
      | refine .inr (.inl ⟨?_,_,_,false,rfl,?_,nofun,fun _=>⟨.any,k'⟩⟩)
        · simp only [hn,dst_some,Nat.reduceLT]
        · first | rfl | (simp (disch:=decide) only [gx,zV,guardV,Nat.reduceEqDiff,reduceIte];done)
      | skip
        refine .inl ?_;simp (disch:=first | decide | rfl) only [gx,r0,r1,r2,r3,r4,r5,zE,zL,zO,zN,aStepM,optable,Nat.reduceEqDiff,reduceIte,Nat.reduceLT,implies_true,forall_const,reduceCtorEq,V.ofValue,V.ofScalar,V.un,V.gd,guardV,V.wrap,aExec,aop,aLoad,row_mk,Blk.row,PartOK,Go.Vm.part,V.cells,V.noSl,V.noRef,Nat.reduceAdd,Nat.reduceLeDiff,Nat.reduceMul,contentL,Value.oneCell',List.all_cons,List.all_nil,‹Tys _›.h,‹Fc _›.h];repeat (refine andA ?_)
        exact k'):aAny P L rg K (fuel+1) listed ⟨env,O,vw,n,m⟩:=aAny_take hK kp i d hi hd hf hr ⟨v,hp,b⟩
theorem zdNilCheck {P:Program} {L:Lend} {rg:Array Oper} {K:St→Prop} {fuel:Nat} {listed:Array Bool} {env:List (Nat×V)} {O:List Blk} {vw:Bool} {n m:Nat} {oi:Oper} {rest:List Oper} {v:V} (hK:∀s t,EqS s t→K s→K t) (kp:Bool) (i d:Nat)
    (b:aAny P L rg K fuel (listed.setIfInBounds i true) ⟨(d,v)::env,O,vw,n,m⟩) (hi:rg.toList.drop i=oi::rest:=by rfl) (hd:oi.dst=some d:=by rfl) (hf:Region.freeG L kp rg listed i=true:=by kernel_rfl) (hr:(Region.ready .any rg listed).contains i=true:=by kernel_rfl)
    (hp:PureH P L rg kp oi d v ⟨env,O,vw,n,m⟩:=by
      intro t hn gx ho K' k';dsimp only at hn;refine .inl ?_;simp (disch:=first | decide | rfl) only [gx,zE,aStepM,optable,Nat.reduceEqDiff,reduceIte,Nat.reduceLT,implies_true,forall_const,reduceCtorEq,V.ofValue,V.ofScalar,V.un,V.gd,aExec,aop,contentL,Value.oneCell',List.all_cons,List.all_nil,Bool.and_self,‹Tys _›.h,‹Fc _›.h];repeat (refine andA ?_)
      exact k'):aAny P L rg K (fuel+1) listed ⟨env,O,vw,n,m⟩:=aAny_take hK kp i d hi hd hf hr ⟨v,hp,b⟩
theorem zdgNilCheck {P:Program} {L:Lend} {rg:Array Oper} {K:St→Prop} {fuel:Nat} {listed:Array Bool} {env:List (Nat×V)} {O:List Blk} {vw:Bool} {n m:Nat} {oi:Oper} {rest:List Oper} {v:V} (hK:∀s t,EqS s t→K s→K t) (kp:Bool) (i d:Nat)
    (b:aAny P L rg K fuel (listed.setIfInBounds i true) ⟨(d,v)::env,O,vw,n,m⟩) (hi:rg.toList.drop i=oi::rest:=by rfl) (hd:oi.dst=some d:=by rfl) (hf:Region.freeG L kp rg listed i=true:=by kernel_rfl) (hr:(Region.ready .any rg listed).contains i=true:=by kernel_rfl)
    (hp : PureH P L rg kp oi d v ⟨env,O,vw,n,m⟩:=by
      intro t hn gx ho K' k';dsimp only at hn;first
      | refine .inr (.inl ⟨?_,_,_,false,rfl,?_,nofun,fun _=>⟨.any,k'⟩⟩)
        · simp only [hn,dst_some,Nat.reduceLT]
        · first | rfl | (simp (disch:=decide) only [gx,zV,guardV,Nat.reduceEqDiff,reduceIte];done)
      | skip
        refine .inl ?_;simp (disch:=first | decide | rfl) only [gx,zE,zG,aStepM,optable,Nat.reduceEqDiff,reduceIte,Nat.reduceLT,implies_true,forall_const,reduceCtorEq,V.ofValue,V.ofScalar,V.un,V.gd,guardV,V.wrap,aExec,aop,contentL,Value.oneCell',List.all_cons,List.all_nil,Bool.and_self,‹Tys _›.h,‹Fc _›.h];repeat (refine andA ?_)
        exact k'):aAny P L rg K (fuel+1) listed ⟨env,O,vw,n,m⟩:=aAny_take hK kp i d hi hd hf hr ⟨v,hp,b⟩
theorem zdBinOp {P:Program} {L:Lend} {rg:Array Oper} {K:St→Prop} {fuel:Nat} {listed:Array Bool} {env:List (Nat×V)} {O:List Blk} {vw:Bool} {n m:Nat} {oi:Oper} {rest:List Oper} {v:V} (hK:∀s t,EqS s t→K s→K t) (kp:Bool) (i d:Nat)
    (b:aAny P L rg K fuel (listed.setIfInBounds i true) ⟨(d,v)::env,O,vw,n,m⟩) (hi:rg.toList.drop i=oi::rest:=by rfl) (hd:oi.dst=some d:=by rfl) (hf:Region.freeG L kp rg listed i=true:=by kernel_rfl) (hr:(Region.ready .any rg listed).contains i=true:=by kernel_rfl)
    (hp:PureH P L rg kp oi d v ⟨env,O,vw,n,m⟩:=by
      intro t hn gx ho K' k';dsimp only at hn;refine .inl ?_;simp (disch:=first | decide | rfl) only [gx,zE,aStepM,optable,Nat.reduceEqDiff,reduceIte,Nat.reduceLT,implies_true,forall_const,reduceCtorEq,V.ofValue,V.ofScalar,V.un,V.gd,aExec,aop,aBin,isNil,or_true,true_or,or_false,false_or,EK.fitsL,EK.fits,cellsEq,cellEq,contentL,Value.oneCell',List.all_cons,List.all_nil,Bool.and_self,‹Tys _›.h,‹Fc _›.h];repeat (refine andA ?_)
      exact k'):aAny P L rg K (fuel+1) listed ⟨env,O,vw,n,m⟩:=aAny_take hK kp i d hi hd hf hr ⟨v,hp,b⟩
theorem zdBinOpW {P:Program} {L:Lend} {rg:Array Oper} {K:St→Prop} {fuel:Nat} {listed:Array Bool} {env:List (Nat×V)} {O:List Blk} {vw:Bool} {n m:Nat} {oi:Oper} {rest:List Oper} {v:V} (hK:∀s t,EqS s t→K s→K t) (kp:Bool) (i d:Nat)
    (b:aAny P L rg K fuel (listed.setIfInBounds i true) ⟨(d,v)::env,O,vw,n,m⟩) (hi:rg.toList.drop i=oi::rest:=by rfl) (hd:oi.dst=some d:=by rfl) (hf:Region.freeG L kp rg listed i=true:=by kernel_rfl) (hr:(Region.ready .any rg listed).contains i=true:=by kernel_rfl)
    (hp:PureH P L rg kp oi d v ⟨env,O,vw,n,m⟩:=by
      intro t hn gx ho K' k';dsimp only at hn;refine .inl ?_;simp (disch:=first | decide | rfl) only [gx,zE,aStepM,optable,Nat.reduceEqDiff,reduceIte,Nat.reduceLT,implies_true,forall_const,reduceCtorEq,V.ofValue,V.ofScalar,V.un,V.gd,aExec,aop,aBin,isNil,or_true,true_or,or_false,false_or,EK.fitsL,EK.fits,cellsEq,cellEq,contentL,Value.oneCell',List.all_cons,List.all_nil,Bool.and_self,‹Tys _›.h,‹Fc _›.h];try simp (disch:=omega) only [wrap64]
      repeat (refine andA ?_)
      exact k'):aAny P L rg K (fuel+1) listed ⟨env,O,vw,n,m⟩:=aAny_take hK kp i d hi hd hf hr ⟨v,hp,b⟩
theorem zdgBinOp {P:Program} {L:Lend} {rg:Array Oper} {K:St→Prop} {fuel:Nat} {listed:Array Bool} {env:List (Nat×V)} {O:List Blk} {vw:Bool} {n m:Nat} {oi:Oper} {rest:List Oper} {v:V} (hK:∀s t,EqS s t→K s→K t) (kp:Bool) (i d:Nat)
    (b:aAny P L rg K fuel (listed.setIfInBounds i true) ⟨(d,v)::env,O,vw,n,m⟩) (hi:rg.toList.drop i=oi::rest:=by rfl) (hd:oi.dst=some d:=by rfl) (hf:Region.freeG L kp rg listed i=true:=by kernel_rfl) (hr:(Region.ready .any rg listed).contains i=true:=by kernel_rfl)
    (hp : PureH P L rg kp oi d v ⟨env,O,vw,n,m⟩:=by
      intro t hn gx ho K' k';dsimp only at hn;first
      | refine .inr (.inl ⟨?_,_,_,false,rfl,?_,nofun,fun _=>⟨.any,k'⟩⟩)
        · simp only [hn,dst_some,Nat.reduceLT]
        · first | rfl | (simp (disch:=decide) only [gx,zV,guardV,Nat.reduceEqDiff,reduceIte];done)
      | skip
        refine .inl ?_;simp (disch:=first | decide | rfl) only [gx,zE,zG,aStepM,optable,Nat.reduceEqDiff,reduceIte,Nat.reduceLT,implies_true,forall_const,reduceCtorEq,V.ofValue,V.ofScalar,V.un,V.gd,guardV,V.wrap,aExec,aop,aBin,isNil,or_true,true_or,or_false,false_or,EK.fitsL,EK.fits,cellsEq,cellEq,contentL,Value.oneCell',List.all_cons,List.all_nil,Bool.and_self,‹Tys _›.h,‹Fc _›.h];repeat (refine andA ?_)
        exact k'):aAny P L rg K (fuel+1) listed ⟨env,O,vw,n,m⟩:=aAny_take hK kp i d hi hd hf hr ⟨v,hp,b⟩
theorem zdgBinOpW {P:Program} {L:Lend} {rg:Array Oper} {K:St→Prop} {fuel:Nat} {listed:Array Bool} {env:List (Nat×V)} {O:List Blk} {vw:Bool} {n m:Nat} {oi:Oper} {rest:List Oper} {v:V} (hK:∀s t,EqS s t→K s→K t) (kp:Bool) (i d:Nat)
    (b:aAny P L rg K fuel (listed.setIfInBounds i true) ⟨(d,v)::env,O,vw,n,m⟩) (hi:rg.toList.drop i=oi::rest:=by rfl) (hd:oi.dst=some d:=by rfl) (hf:Region.freeG L kp rg listed i=true:=by kernel_rfl) (hr:(Region.ready .any rg listed).contains i=true:=by kernel_rfl)
    (hp : PureH P L rg kp oi d v ⟨env,O,vw,n,m⟩:=by
      intro t hn gx ho K' k';dsimp only at hn;first
      | refine .inr (.inl ⟨?_,_,_,false,rfl,?_,nofun,fun _=>⟨.any,k'⟩⟩)
        · simp only [hn,dst_some,Nat.reduceLT]
        · first | rfl | (simp (disch:=decide) only [gx,zV,guardV,Nat.reduceEqDiff,reduceIte];done)
      | skip
        refine .inl ?_;simp (disch:=first | decide | rfl) only [gx,zE,zG,aStepM,optable,Nat.reduceEqDiff,reduceIte,Nat.reduceLT,implies_true,forall_const,reduceCtorEq,V.ofValue,V.ofScalar,V.un,V.gd,guardV,V.wrap,aExec,aop,aBin,isNil,or_true,true_or,or_false,false_or,EK.fitsL,EK.fits,cellsEq,cellEq,contentL,Value.oneCell',List.all_cons,List.all_nil,Bool.and_self,‹Tys _›.h,‹Fc _›.h];try simp (disch:=omega) only [wrap64]
        repeat (refine andA ?_)
        exact k'):aAny P L rg K (fuel+1) listed ⟨env,O,vw,n,m⟩:=aAny_take hK kp i d hi hd hf hr ⟨v,hp,b⟩
theorem zdUnOp {P:Program} {L:Lend} {rg:Array Oper} {K:St→Prop} {fuel:Nat} {listed:Array Bool} {env:List (Nat×V)} {O:List Blk} {vw:Bool} {n m:Nat} {oi:Oper} {rest:List Oper} {v:V} (hK:∀s t,EqS s t→K s→K t) (kp:Bool) (i d:Nat)
    (b:aAny P L rg K fuel (listed.setIfInBounds i true) ⟨(d,v)::env,O,vw,n,m⟩) (hi:rg.toList.drop i=oi::rest:=by rfl) (hd:oi.dst=some d:=by rfl) (hf:Region.freeG L kp rg listed i=true:=by kernel_rfl) (hr:(Region.ready .any rg listed).contains i=true:=by kernel_rfl)
    (hp:PureH P L rg kp oi d v ⟨env,O,vw,n,m⟩:=by
      intro t hn gx ho K' k';dsimp only at hn;refine .inl ?_;simp (disch:=first | decide | rfl) only [gx,zE,aStepM,optable,Nat.reduceEqDiff,reduceIte,Nat.reduceLT,implies_true,forall_const,reduceCtorEq,V.ofValue,V.ofScalar,V.un,V.gd,aExec,aop,aUn,contentL,Value.oneCell',List.all_cons,List.all_nil,Bool.and_self,‹Tys _›.h,‹Fc _›.h];repeat (refine andA ?_)
      exact k'):aAny P L rg K (fuel+1) listed ⟨env,O,vw,n,m⟩:=aAny_take hK kp i d hi hd hf hr ⟨v,hp,b⟩
theorem zdgUnOp {P:Program} {L:Lend} {rg:Array Oper} {K:St→Prop} {fuel:Nat} {listed:Array Bool} {env:List (Nat×V)} {O:List Blk} {vw:Bool} {n m:Nat} {oi:Oper} {rest:List Oper} {v:V} (hK:∀s t,EqS s t→K s→K t) (kp:Bool) (i d:Nat)
    (b:aAny P L rg K fuel (listed.setIfInBounds i true) ⟨(d,v)::env,O,vw,n,m⟩) (hi:rg.toList.drop i=oi::rest:=by rfl) (hd:oi.dst=some d:=by rfl) (hf:Region.freeG L kp rg listed i=true:=by kernel_rfl) (hr:(Region.ready .any rg listed).contains i=true:=by kernel_rfl)
    (hp : PureH P L rg kp oi d v ⟨env,O,vw,n,m⟩:=by
      intro t hn gx ho K' k';dsimp only at hn;first
      | refine .inr (.inl ⟨?_,_,_,false,rfl,?_,nofun,fun _=>⟨.any,k'⟩⟩)
        · simp only [hn,dst_some,Nat.reduceLT]
        · first | rfl | (simp (disch:=decide) only [gx,zV,guardV,Nat.reduceEqDiff,reduceIte];done)
      | skip
        refine .inl ?_;simp (disch:=first | decide | rfl) only [gx,zE,zG,aStepM,optable,Nat.reduceEqDiff,reduceIte,Nat.reduceLT,implies_true,forall_const,reduceCtorEq,V.ofValue,V.ofScalar,V.un,V.gd,guardV,V.wrap,aExec,aop,aUn,contentL,Value.oneCell',List.all_cons,List.all_nil,Bool.and_self,‹Tys _›.h,‹Fc _›.h];repeat (refine andA ?_)
        exact k'):aAny P L rg K (fuel+1) listed ⟨env,O,vw,n,m⟩:=aAny_take hK kp i d hi hd hf hr ⟨v,hp,b⟩
theorem zdFieldAddr {P:Program} {L:Lend} {rg:Array Oper} {K:St→Prop} {fuel:Nat} {listed:Array Bool} {env:List (Nat×V)} {O:List Blk} {vw:Bool} {n m:Nat} {oi:Oper} {rest:List Oper} {v:V} (hK:∀s t,EqS s t→K s→K t) (kp:Bool) (i d:Nat)
    (b:aAny P L rg K fuel (listed.setIfInBounds i true) ⟨(d,v)::env,O,vw,n,m⟩) (hi:rg.toList.drop i=oi::rest:=by rfl) (hd:oi.dst=some d:=by rfl) (hf:Region.freeG L kp rg listed i=true:=by kernel_rfl) (hr:(Region.ready .any rg listed).contains i=true:=by kernel_rfl)
    (hp:PureH P L rg kp oi d v ⟨env,O,vw,n,m⟩:=by
      intro t hn gx ho K' k';dsimp only at hn;refine .inl ?_;simp (disch:=first | decide | rfl) only [gx,zE,zL,zN,aStepM,optable,Nat.reduceEqDiff,reduceIte,Nat.reduceLT,implies_true,forall_const,reduceCtorEq,V.ofValue,V.ofScalar,V.un,V.gd,aExec,aop,aFieldAddr,Nat.reduceAdd,Nat.reduceLeDiff,Nat.reduceMul,contentL,Value.oneCell',List.all_cons,List.all_nil,Bool.and_self,‹Tys _›.h,‹Fc _›.h];repeat (refine andA ?_)
      exact k'):aAny P L rg K (fuel+1) listed ⟨env,O,vw,n,m⟩:=aAny_take hK kp i d hi hd hf hr ⟨v,hp,b⟩
theorem zdgFieldAddr {P:Program} {L:Lend} {rg:Array Oper} {K:St→Prop} {fuel:Nat} {listed:Array Bool} {env:List (Nat×V)} {O:List Blk} {vw:Bool} {n m:Nat} {oi:Oper} {rest:List Oper} {v:V} (hK:∀s t,EqS s t→K s→K t) (kp:Bool) (i d:Nat)
    (b:aAny P L rg K fuel (listed.setIfInBounds i true) ⟨(d,v)::env,O,vw,n,m⟩) (hi:rg.toList.drop i=oi::rest:=by rfl) (hd:oi.dst=some d:=by rfl) (hf:Region.freeG L kp rg listed i=true:=by kernel_rfl) (hr:(Region.ready .any rg listed).contains i=true:=by kernel_rfl)
    (hp : PureH P L rg kp oi d v ⟨env,O,vw,n,m⟩:=by
      intro t hn gx ho K' k';dsimp only at hn;first
      | refine .inr (.inl ⟨?_,_,_,false,rfl,?_,nofun,fun _=>⟨.any,k'⟩⟩)
        · simp only [hn,dst_some,Nat.reduceLT]
        · first | rfl | (simp (disch:=decide) only [gx,zV,guardV,Nat.reduceEqDiff,reduceIte];done)
      | skip
        refine .inl ?_;simp (disch:=first | decide | rfl) only [gx,zE,zL,zN,aStepM,optable,Nat.reduceEqDiff,reduceIte,Nat.reduceLT,implies_true,forall_const,reduceCtorEq,V.ofValue,V.ofScalar,V.un,V.gd,guardV,V.wrap,aExec,aop,aFieldAddr,Nat.reduceAdd,Nat.reduceLeDiff,Nat.reduceMul,contentL,Value.oneCell',List.all_cons,List.all_nil,Bool.and_self,‹Tys _›.h,‹Fc _›.h];repeat (refine andA ?_)
        exact k'):aAny P L rg K (fuel+1) listed ⟨env,O,vw,n,m⟩:=aAny_take hK kp i d hi hd hf hr ⟨v,hp,b⟩
theorem zdIndexAddr {P:Program} {L:Lend} {rg:Array Oper} {K:St→Prop} {fuel:Nat} {listed:Array Bool} {env:List (Nat×V)} {O:List Blk} {vw:Bool} {n m:Nat} {oi:Oper} {rest:List Oper} {v:V} (hK:∀s t,EqS s t→K s→K t) (kp:Bool) (i d:Nat)
    (b:aAny P L rg K fuel (listed.setIfInBounds i true) ⟨(d,v)::env,O,vw,n,m⟩) (hi:rg.toList.drop i=oi::rest:=by rfl) (hd:oi.dst=some d:=by rfl) (hf:Region.freeG L kp rg listed i=true:=by kernel_rfl) (hr:(Region.ready .any rg listed).contains i=true:=by kernel_rfl)
    (hp:PureH P L rg kp oi d v ⟨env,O,vw,n,m⟩:=by
      intro t hn gx ho K' k';dsimp only at hn;first | have r0:=row_all (ho rfl) 0 rfl | have r0:=True.intro
      first | have r1:=row_all (ho rfl) 1 rfl | have r1:=True.intro
      first | have r2:=row_all (ho rfl) 2 rfl | have r2:=True.intro
      first | have r3:=row_all (ho rfl) 3 rfl | have r3:=True.intro
      first | have r4:=row_all (ho rfl) 4 rfl | have r4:=True.intro
      first | have r5:=row_all (ho rfl) 5 rfl | have r5:=True.intro
      refine .inl ?_;simp (disch:=first | decide | rfl) only [gx,r0,r1,r2,r3,r4,r5,zE,zL,zN,aStepM,optable,Nat.reduceEqDiff,reduceIte,Nat.reduceLT,implies_true,forall_const,reduceCtorEq,V.ofValue,V.ofScalar,V.un,V.gd,aExec,aop,List.mem_cons,List.not_mem_nil,or_false,forall_eq_or_imp,forall_eq,aIndexAddr,row_mk,Blk.row,Go.Vm.V.cells,List.forall_mem_map,List.length_map,Int.toNat_natCast,Int.reduceToNat,TypeDesc.slice.injEq,Nat.reduceAdd,Nat.reduceLeDiff,Nat.reduceMul,contentL,Value.oneCell',List.all_cons,List.all_nil,Bool.and_self,‹Tys _›.h,‹Fc _›.h];repeat (refine andA ?_)
      exact k'):aAny P L rg K (fuel+1) listed ⟨env,O,vw,n,m⟩:=aAny_take hK kp i d hi hd hf hr ⟨v,hp,b⟩
theorem zdgIndexAddr {P:Program} {L:Lend} {rg:Array Oper} {K:St→Prop} {fuel:Nat} {listed:Array Bool} {env:List (Nat×V)} {O:List Blk} {vw:Bool} {n m:Nat} {oi:Oper} {rest:List Oper} {v:V} (hK:∀s t,EqS s t→K s→K t) (kp:Bool) (i d:Nat)
    (b:aAny P L rg K fuel (listed.setIfInBounds i true) ⟨(d,v)::env,O,vw,n,m⟩) (hi:rg.toList.drop i=oi::rest:=by rfl) (hd:oi.dst=some d:=by rfl) (hf:Region.freeG L kp rg listed i=true:=by kernel_rfl) (hr:(Region.ready .any rg listed).contains i=true:=by kernel_rfl)
    (hp : PureH P L rg kp oi d v ⟨env,O,vw,n,m⟩:=by
      intro t hn gx ho K' k';dsimp only at hn;first | have r0:=row_all (ho rfl) 0 rfl | have r0:=True.intro
      first | have r1:=row_all (ho rfl) 1 rfl | have r1:=True.intro
      first | have r2:=row_all (ho rfl) 2 rfl | have r2:=True.intro
      first | have r3:=row_all (ho rfl) 3 rfl | have r3:=True.intro
      first | have r4:=row_all (ho rfl) 4 rfl | have r4:=True.intro
      first | have r5:=row_all (ho rfl) 5 rfl | have r5:=True.intro
      first
      | refine .inr (.inl ⟨?_,_,_,false,rfl,?_,nofun,fun _=>⟨.any,k'⟩⟩)
        · simp only [hn,dst_some,Nat.reduceLT]
        · first | rfl | (simp (disch:=decide) only [gx,zV,guardV,Nat.reduceEqDiff,reduceIte];done)
      | skip
        refine .inl ?_;simp (disch:=first | decide | rfl) only [gx,r0,r1,r2,r3,r4,r5,zE,zL,zN,aStepM,optable,Nat.reduceEqDiff,reduceIte,Nat.reduceLT,implies_true,forall_const,reduceCtorEq,V.ofValue,V.ofScalar,V.un,V.gd,guardV,V.wrap,aExec,aop,List.mem_cons,List.not_mem_nil,or_false,forall_eq_or_imp,forall_eq,aIndexAddr,row_mk,Blk.row,Go.Vm.V.cells,List.forall_mem_map,List.length_map,Int.toNat_natCast,Int.reduceToNat,TypeDesc.slice.injEq,Nat.reduceAdd,Nat.reduceLeDiff,Nat.reduceMul,contentL,Value.oneCell',List.all_cons,List.all_nil,Bool.and_self,‹Tys _›.h,‹Fc _›.h];repeat (refine andA ?_)
        exact k'):aAny P L rg K (fuel+1) listed ⟨env,O,vw,n,m⟩:=aAny_take hK kp i d hi hd hf hr ⟨v,hp,b⟩
theorem zdIndex {P:Program} {L:Lend} {rg:Array Oper} {K:St→Prop} {fuel:Nat} {listed:Array Bool} {env:List (Nat×V)} {O:List Blk} {vw:Bool} {n m:Nat} {oi:Oper} {rest:List Oper} {v:V} (hK:∀s t,EqS s t→K s→K t) (kp:Bool) (i d:Nat)
    (b:aAny P L rg K fuel (listed.setIfInBounds i true) ⟨(d,v)::env,O,vw,n,m⟩) (hi:rg.toList.drop i=oi::rest:=by rfl) (hd:oi.dst=some d:=by rfl) (hf:Region.freeG L kp rg listed i=true:=by kernel_rfl) (hr:(Region.ready .any rg listed).contains i=true:=by kernel_rfl)
    (hp:PureH P L rg kp oi d v ⟨env,O,vw,n,m⟩:=by
      intro t hn gx ho K' k';dsimp only at hn;refine .inl ?_;simp (disch:=first | decide | rfl) only [gx,zE,zL,zN,aStepM,optable,Nat.reduceEqDiff,reduceIte,Nat.reduceLT,implies_true,forall_const,reduceCtorEq,V.ofValue,V.ofScalar,V.un,V.gd,aExec,aop,aIndex,Int.toNat_natCast,Int.reduceToNat,Nat.reduceAdd,Nat.reduceLeDiff,Nat.reduceMul,contentL,Value.oneCell',List.all_cons,List.all_nil,Bool.and_self,‹Tys _›.h,‹Fc _›.h];repeat (refine andA ?_)
      exact k'):aAny P L rg K (fuel+1) listed ⟨env,O,vw,n,m⟩:=aAny_take hK kp i d hi hd hf hr ⟨v,hp,b⟩
theorem zdgIndex {P:Program} {L:Lend} {rg:Array Oper} {K:St→Prop} {fuel:Nat} {listed:Array Bool} {env:List (Nat×V)} {O:List Blk} {vw:Bool} {n m:Nat} {oi:Oper} {rest:List Oper} {v:V} (hK:∀s t,EqS s t→K s→K t) (kp:Bool) (i d:Nat)
    (b:aAny P L rg K fuel (listed.setIfInBounds i true) ⟨(d,v)::env,O,vw,n,m⟩) (hi:rg.toList.drop i=oi::rest:=by rfl) (hd:oi.dst=some d:=by rfl) (hf:Region.freeG L kp rg listed i=true:=by kernel_rfl) (hr:(Region.ready .any rg listed).contains i=true:=by kernel_rfl)
    (hp : PureH P L rg kp oi d v ⟨env,O,vw,n,m⟩:=by
      intro t hn gx ho K' k';dsimp only at hn;first
      | refine .inr (.inl ⟨?_,_,_,false,rfl,?_,nofun,fun _=>⟨.any,k'⟩⟩)
        · simp only [hn,dst_some,Nat.reduceLT]
        · first | rfl | (simp (disch:=decide) only [gx,zV,guardV,Nat.reduceEqDiff,reduceIte];done)
      | skip
        refine .inl ?_;simp (disch:=first | decide | rfl) only [gx,zE,zL,zN,aStepM,optable,Nat.reduceEqDiff,reduceIte,Nat.reduceLT,implies_true,forall_const,reduceCtorEq,V.ofValue,V.ofScalar,V.un,V.gd,guardV,V.wrap,aExec,aop,aIndex,Int.toNat_natCast,Int.reduceToNat,Nat.reduceAdd,Nat.reduceLeDiff,Nat.reduceMul,contentL,Value.oneCell',List.all_cons,List.all_nil,Bool.and_self,‹Tys _›.h,‹Fc _›.h];repeat (refine andA ?_)
        exact k'):aAny P L rg K (fuel+1) listed ⟨env,O,vw,n,m⟩:=aAny_take hK kp i d hi hd hf hr ⟨v,hp,b⟩
theorem zdExtract {P:Program} {L:Lend} {rg:Array Oper} {K:St→Prop} {fuel:Nat} {listed:Array Bool} {env:List (Nat×V)} {O:List Blk} {vw:Bool} {n m:Nat} {oi:Oper} {rest:List Oper} {v:V} (hK:∀s t,EqS s t→K s→K t) (kp:Bool) (i d:Nat)
    (b:aAny P L rg K fuel (listed.setIfInBounds i true) ⟨(d,v)::env,O,vw,n,m⟩) (hi:rg.toList.drop i=oi::rest:=by rfl) (hd:oi.dst=some d:=by rfl) (hf:Region.freeG L kp rg listed i=true:=by kernel_rfl) (hr:(Region.ready .any rg listed).contains i=true:=by kernel_rfl)
    (hp:PureH P L rg kp oi d v ⟨env,O,vw,n,m⟩:=by
      intro t hn gx ho K' k';dsimp only at hn;refine .inl ?_;simp (disch:=first | decide | rfl) only [gx,zE,zL,zN,aStepM,optable,Nat.reduceEqDiff,reduceIte,Nat.reduceLT,implies_true,forall_const,reduceCtorEq,V.ofValue,V.ofScalar,V.un,V.gd,aExec,aop,aExtract,Nat.reduceAdd,Nat.reduceLeDiff,Nat.reduceMul,contentL,Value.oneCell',List.all_cons,List.all_nil,Bool.and_self,‹Tys _›.h,‹Fc _›.h];repeat (refine andA ?_)
      exact k'):aAny P L rg K (fuel+1) listed ⟨env,O,vw,n,m⟩:=aAny_take hK kp i d hi hd hf hr ⟨v,hp,b⟩
theorem zdSlice {P:Program} {L:Lend} {rg:Array Oper} {K:St→Prop} {fuel:Nat} {listed:Array Bool} {env:List (Nat×V)} {O:List Blk} {vw:Bool} {n m:Nat} {oi:Oper} {rest:List Oper} {v:V} (hK:∀s t,EqS s t→K s→K t) (kp:Bool) (i d:Nat)
    (b:aAny P L rg K fuel (listed.setIfInBounds i true) ⟨(d,v)::env,O,vw,n,m⟩) (hi:rg.toList.drop i=oi::rest:=by rfl) (hd:oi.dst=some d:=by rfl) (hf:Region.freeG L kp rg listed i=true:=by kernel_rfl) (hr:(Region.ready .any rg listed).contains i=true:=by kernel_rfl)
    (hp:PureH P L rg kp oi d v ⟨env,O,vw,n,m⟩:=by
      intro t hn gx ho K' k';dsimp only at hn;first | have r0:=row_all (ho rfl) 0 rfl | have r0:=True.intro
      first | have r1:=row_all (ho rfl) 1 rfl | have r1:=True.intro
      first | have r2:=row_all (ho rfl) 2 rfl | have r2:=True.intro
      first | have r3:=row_all (ho rfl) 3 rfl | have r3:=True.intro
      first | have r4:=row_all (ho rfl) 4 rfl | have r4:=True.intro
      first | have r5:=row_all (ho rfl) 5 rfl | have r5:=True.intro
      refine .inl ?_;simp (disch:=first | decide | rfl) only [gx,r0,r1,r2,r3,r4,r5,zE,zL,zN,aStepM,optable,Nat.reduceEqDiff,reduceIte,Nat.reduceLT,implies_true,forall_const,reduceCtorEq,V.ofValue,V.ofScalar,V.un,V.gd,aExec,aop,List.set_cons_zero,List.set_cons_succ,aSlice,forall_eq',bound,ElemsOK,Option.map_none,Option.isNone_none,row_mk,Blk.row,TypeDesc.slice.injEq,List.forall_mem_map,List.length_map,Go.Vm.V.cells,Int.toNat_natCast,Int.reduceToNat,←List.map_take,←List.map_drop,List.take_length,Nat.reduceAdd,Nat.reduceLeDiff,Nat.reduceMul,contentL,Value.oneCell',List.all_cons,List.all_nil,Bool.and_self,‹Tys _›.h,‹Fc _›.h];repeat (refine andA ?_)
      exact k'):aAny P L rg K (fuel+1) listed ⟨env,O,vw,n,m⟩:=aAny_take hK kp i d hi hd hf hr ⟨v,hp,b⟩
theorem zdLen {P:Program} {L:Lend} {rg:Array Oper} {K:St→Prop} {fuel:Nat} {listed:Array Bool} {env:List (Nat×V)} {O:List Blk} {vw:Bool} {n m:Nat} {oi:Oper} {rest:List Oper} {v:V} (hK:∀s t,EqS s t→K s→K t) (kp:Bool) (i d:Nat)
    (b:aAny P L rg K fuel (listed.setIfInBounds i true) ⟨(d,v)::env,O,vw,n,m⟩) (hi:rg.toList.drop i=oi::rest:=by rfl) (hd:oi.dst=some d:=by rfl) (hf:Region.freeG L kp rg listed i=true:=by kernel_rfl) (hr:(Region.ready .any rg listed).contains i=true:=by kernel_rfl)
    (hp:PureH P L rg kp oi d v ⟨env,O,vw,n,m⟩:=by
      intro t hn gx ho K' k';dsimp only at hn;first | have r0:=row_all (ho rfl) 0 rfl | have r0:=True.intro
      first | have r1:=row_all (ho rfl) 1 rfl | have r1:=True.intro
      first | have r2:=row_all (ho rfl) 2 rfl | have r2:=True.intro
      first | have r3:=row_all (ho rfl) 3 rfl | have r3:=True.intro
      first | have r4:=row_all (ho rfl) 4 rfl | have r4:=True.intro
      first | have r5:=row_all (ho rfl) 5 rfl | have r5:=True.intro
      refine .inl ?_;simp (disch:=first | decide | rfl) only [gx,r0,r1,r2,r3,r4,r5,zE,zL,zN,aStepM,optable,Nat.reduceEqDiff,reduceIte,Nat.reduceLT,implies_true,forall_const,reduceCtorEq,V.ofValue,V.ofScalar,V.un,V.gd,aExec,aop,List.length_map,aLen,lenOK,row_mk,Blk.row,List.size_toArray,List.getD_eq_getElem?_getD,Array.getD_eq_getD_getElem?,Option.getD_some,Nat.reduceAdd,Nat.reduceLeDiff,Nat.reduceMul,contentL,Value.oneCell',List.all_cons,List.all_nil,Bool.and_self,‹Tys _›.h,‹Fc _›.h];repeat (refine andA ?_)
      exact k'):aAny P L rg K (fuel+1) listed ⟨env,O,vw,n,m⟩:=aAny_take hK kp i d hi hd hf hr ⟨v,hp,b⟩
theorem zdBuild {P:Program} {L:Lend} {rg:Array Oper} {K:St→Prop} {fuel:Nat} {listed:Array Bool} {env:List (Nat×V)} {O:List Blk} {vw:Bool} {n m:Nat} {oi:Oper} {rest:List Oper} {v:V} (hK:∀s t,EqS s t→K s→K t) (kp:Bool) (i d:Nat)
    (b:aAny P L rg K fuel (listed.setIfInBounds i true) ⟨(d,v)::env,O,vw,n,m⟩) (hi:rg.toList.drop i=oi::rest:=by rfl) (hd:oi.dst=some d:=by rfl) (hf:Region.freeG L kp rg listed i=true:=by kernel_rfl) (hr:(Region.ready .any rg listed).contains i=true:=by kernel_rfl)
    (hp:PureH P L rg kp oi d v ⟨env,O,vw,n,m⟩:=by
      intro t hn gx ho K' k';dsimp only at hn;refine .inl ?_;simp (disch:=first | decide | rfl) only [gx,zE,zL,zO,zN,aStepM,optable,Nat.reduceEqDiff,reduceIte,Nat.reduceLT,implies_true,forall_const,reduceCtorEq,V.ofValue,V.ofScalar,V.un,V.gd,aExec,aop,fillV,if_true,Nat.zero_mul,Nat.one_mul,Nat.mul_one,V.isVal,V.cells,List.mem_cons,List.not_mem_nil,or_false,forall_eq_or_imp,forall_eq,Nat.reduceAdd,Nat.reduceLeDiff,Nat.reduceMul,contentL,Value.oneCell',List.all_cons,List.all_nil,‹Tys _›.h,‹Fc _›.h];repeat (refine andA ?_)
      exact k'):aAny P L rg K (fuel+1) listed ⟨env,O,vw,n,m⟩:=aAny_take hK kp i d hi hd hf hr ⟨v,hp,b⟩
theorem zoAssign {P:Program} {L:Lend} {rg:Array Oper} {K:St→Prop} {fuel:Nat} {listed:Array Bool} {s:St} {oi:Oper} {rest:List Oper} {B:Prop} (i:Nat) (b:Ho B) (hi:rg.toList.drop i=oi::rest:=by rfl) (hr:Region.ready .any rg listed=[i]:=by kernel_rfl)
    (e:Ho B→(∀K':St→Prop,(∀s,aAny P L rg K fuel (listed.setIfInBounds i true) s→K' s)→aStepM P L rg oi s K'):=by
      intro b K k;simp only [zE,zS,aStepM,optable,set_some,Nat.reduceEqDiff,reduceIte,Nat.reduceLT,implies_true,forall_const,reduceCtorEq,V.ofValue,V.ofScalar,V.un,V.gd,aExec,aop,Nat.reduceAdd,contentL,Value.oneCell',List.all_cons,List.all_nil,Bool.and_self,‹Tys _›.h,‹Fc _›.h];repeat (refine andA ?_)
      refine k _ ?_;clear k K;exact b.h):aAny P L rg K (fuel+1) listed s:=aAny_only i hi hr (e b)
theorem zoStore {P:Program} {L:Lend} {rg:Array Oper} {K:St→Prop} {fuel:Nat} {listed:Array Bool} {s:St} {oi:Oper} {rest:List Oper} {B:Prop} (i:Nat) (b:Ho B) (hi:rg.toList.drop i=oi::rest:=by rfl) (hr:Region.ready .any rg listed=[i]:=by kernel_rfl)
    (e:Ho B→(∀K':St→Prop,(∀s,aAny P L rg K fuel (listed.setIfInBounds i true) s→K' s)→aStepM P L rg oi s K'):=by
      intro b K k;simp only [zE,zS,zJ,zL,zO,zN,aStepM,optable,set_some,Nat.reduceEqDiff,reduceIte,Nat.reduceLT,implies_true,forall_const,reduceCtorEq,V.ofValue,V.ofScalar,V.un,V.gd,aExec,aop,aStore,setCells,V.isVal,V.cells,kindOf,kindAll,V.noSl,V.noRef,gt_iff_lt,Nat.reduceAdd,Nat.reduceLeDiff,Nat.reduceMul,takeV,takeCell,takeCells,row_mk,Blk.row,killAll,Nat.reduceBEq,join_t,contentL,Value.oneCell',‹Tys _›.h,‹Fc _›.h];repeat (refine andA ?_)
      refine k _ ?_;clear k K;exact b.h):aAny P L rg K (fuel+1) listed s:=aAny_only i hi hr (e b)
theorem zoAlloc {P:Program} {L:Lend} {rg:Array Oper} {K:St→Prop} {fuel:Nat} {listed:Array Bool} {s:St} {oi:Oper} {rest:List Oper} {B:Prop} (i:Nat) (b:Ho B) (hi:rg.toList.drop i=oi::rest:=by rfl) (hr:Region.ready .any rg listed=[i]:=by kernel_rfl)
    (e:Ho B→(∀K':St→Prop,(∀s,aAny P L rg K fuel (listed.setIfInBounds i true) s→K' s)→aStepM P L rg oi s K'):=by
      intro b K k;simp only [zE,zS,zO,zN,aStepM,optable,set_some,Nat.reduceEqDiff,reduceIte,Nat.reduceLT,implies_true,forall_const,reduceCtorEq,V.ofValue,V.ofScalar,V.un,V.gd,aExec,aop,Nat.reduceAdd,Value.oneCell',V.isVal,V.cells,kindOf,kindAll,V.noSl,V.noRef,List.all_cons,List.all_nil,List.map_cons,List.map_nil,gt_iff_lt,Nat.reduceLeDiff,Nat.reduceMul,contentL,‹Tys _›.h,‹Fc _›.h];repeat (refine andA ?_)
      refine k _ ?_;clear k K;exact b.h):aAny P L rg K (fuel+1) listed s:=aAny_only i hi hr (e b)
theorem zoBuildSlice {P:Program} {L:Lend} {rg:Array Oper} {K:St→Prop} {fuel:Nat} {listed:Array Bool} {s:St} {oi:Oper} {rest:List Oper} {B:Prop} (i:Nat) (b:Ho B) (hi:rg.toList.drop i=oi::rest:=by rfl) (hr:Region.ready .any rg listed=[i]:=by kernel_rfl)
    (e:Ho B→(∀K':St→Prop,(∀s,aAny P L rg K fuel (listed.setIfInBounds i true) s→K' s)→aStepM P L rg oi s K'):=by
      intro b K k;simp only [zE,zO,zN,aStepM,optable,set_some,Nat.reduceEqDiff,reduceIte,Nat.reduceLT,implies_true,forall_const,reduceCtorEq,V.ofValue,V.ofScalar,V.un,V.gd,aExec,aop,litElems,rng0,rng1,rng2,rng3,rng4,rng5,rng6,rng7,rng8,rng9,rng10,rng11,rng12,List.map_cons,List.map_nil,List.all_cons,List.all_nil,V.isVal,V.cells,content,contentL,kindAll,V.noRef,V.noSl,List.mem_cons,List.not_mem_nil,or_false,forall_eq_or_imp,forall_eq,if_true,Option.isSome_some,List.length_cons,List.length_nil,Nat.reduceAdd,Nat.reduceLeDiff,Nat.reduceMul,Value.oneCell',‹Tys _›.h,‹Fc _›.h];repeat (refine andA ?_)
      refine k _ ?_;clear k K;exact b.h):aAny P L rg K (fuel+1) listed s:=aAny_only i hi hr (e b)
theorem zoAppend {P:Program} {L:Lend} {rg:Array Oper} {K:St→Prop} {fuel:Nat} {listed:Array Bool} {s:St} {oi:Oper} {rest:List Oper} {B:Prop} (i:Nat) (b:Ho B) (hi:rg.toList.drop i=oi::rest:=by rfl) (hr:Region.ready .any rg listed=[i]:=by kernel_rfl)
    (e:Ho B→(∀K':St→Prop,(∀s,aAny P L rg K fuel (listed.setIfInBounds i true) s→K' s)→aStepM P L rg oi s K'):=by
      intro b K k;simp only [zE,zL,zO,zN,aStepM,optable,set_some,Nat.reduceEqDiff,reduceIte,Nat.reduceLT,implies_true,forall_const,reduceCtorEq,V.ofValue,V.ofScalar,V.un,V.gd,aExec,aop,fillK_thin,beq_self_eq_true,List.nodup_cons,List.mem_singleton,forall_eq',List.size_toArray,List.getD_eq_getElem?_getD,Array.getD_eq_getD_getElem?,Option.getD_some,aAppend,destOf,srcOf,takeElems,takeV,takeCell,takeCells,row_mk,Blk.row,killAll,V.isSub,V.noSl,Value.cells,Option.toList,List.forall_mem_map,List.length_map,List.all_cons,List.all_nil,List.isEmpty_nil,List.isEmpty_cons,List.not_mem_nil,List.nodup_nil,join_ff,join_ft,join_fv,join_d,join_s,fillK_join0,fillK_join,List.mem_cons,or_false,forall_eq_or_imp,forall_eq,List.set_cons_zero,List.set_cons_succ,List.length_append,Go.Vm.V.cells,Nat.reduceAdd,Nat.reduceLeDiff,Nat.reduceMul,contentL,Value.oneCell',‹Tys _›.h,‹Fc _›.h];repeat (refine andA ?_)
      refine k _ ?_;clear k K;exact b.h):aAny P L rg K (fuel+1) listed s:=aAny_only i hi hr (e b)
theorem zoc {P:Program} {L:Lend} {rg:Array Oper} {K:St→Prop} {fuel:Nat} {listed:Array Bool} {s:St} {oi:Oper} {rest:List Oper} {B:Prop} {C:Prop} (i:Nat) (con:C) (b:Ho B) (hi:rg.toList.drop i=oi::rest:=by rfl) (hr:Region.ready .any rg listed=[i]:=by kernel_rfl)
    (e:C→Ho B→(∀K':St→Prop,(∀s,aAny P L rg K fuel (listed.setIfInBounds i true) s→K' s)→aStepM P L rg oi s K'):=by
      intro con b K k;simp only [zE,zM,aStepM,optable,set_some,Nat.reduceEqDiff,reduceIte,Nat.reduceLT,implies_true,forall_const,reduceCtorEq,V.ofValue,V.ofScalar,V.un,V.gd,aExec,lentIds,lendOf,‹Tys _›.h,‹Fc _›.h];repeat (refine andC ?_)
      refine aCall_new con (by first | rfl | (simp only [toArgs,toArg,toCell,toCells,toRows,Option.map_some,idx,row_mk,List.getElem?_cons_zero,List.getElem?_cons_succ,Option.bind_some,Blk.row,fillK_mix,thK_mix,flat_mix,deep_mix,thin_mix,shal_mix,cond_true,List.map_take];done) | (simp [toArgs,toArg,toCell,toCells,toRows,idx,row_mk,Blk.row,fillK_mix,thK_mix,flat_mix,deep_mix,thin_mix,shal_mix,Nat.beq_refl];done)) (by first | exact .inl ⟨rfl,by simp [Blk.kindIs,fillK_fd,thK_fd]⟩ | exact .inr (by simp [V.cold])) ?_;refine k _ ?_;clear k K;simp only [zY,zW,set_some,Nat.reduceEqDiff,reduceIte,V.ren,V.renL,rho,Nat.reduceAdd];exact b.h):aAny P L rg K (fuel+1) listed s:=aAny_only i hi hr (e con b)
theorem zogc {P:Program} {L:Lend} {rg:Array Oper} {K:St→Prop} {fuel:Nat} {listed:Array Bool} {s:St} {oi:Oper} {rest:List Oper} {B:Prop} {C:Prop} (i:Nat) (con:C) (b:Ho B) (hi:rg.toList.drop i=oi::rest:=by rfl) (hr:Region.ready .any rg listed=[i]:=by kernel_rfl)
    (e:C→Ho B→(Region.ready .any rg listed=[i])→(rg.toList.drop i=oi::rest)→aAny P L rg K (fuel+1) listed s:=by
      intro con b hr hi;first
      | refine aAny_pass _ _ _ _ hi rfl (Nat.le_of_ble_eq_true rfl) hr rfl ?_ ?_
        · first | rfl | (simp only [zV,guardV,Nat.reduceEqDiff,reduceIte];done)
        simp only [zW,set_some,Nat.reduceEqDiff,reduceIte];exact b.h
      | skip
        refine aAny_only _ hi hr ?_;intro K k;simp only [zE,zG,aStepM,optable,set_some,Nat.reduceEqDiff,reduceIte,Nat.reduceLT,implies_true,forall_const,reduceCtorEq,V.ofValue,V.ofScalar,V.un,V.gd,guardV,‹Tys _›.h,‹Fc _›.h];simp only [zM,zW,aExec,lentIds,lendOf,set_some,Nat.reduceEqDiff,reduceIte,V.ofValue,V.ofScalar,V.un,V.gd,and_true,true_and,implies_true,and_self,decide_eq_true_eq];first | refine Exists.imp (fun r h=>h) (aCall_guardT con (by first | rfl | (simp only [toArgs,toArg,toCell,toCells,toRows,Option.map_some,idx,row_mk,List.getElem?_cons_zero,List.getElem?_cons_succ,Option.bind_some,Blk.row,fillK_mix,thK_mix,flat_mix,deep_mix,thin_mix,shal_mix,cond_true,List.map_take];done) | (simp [toArgs,toArg,toCell,toCells,toRows,idx,row_mk,Blk.row,fillK_mix,thK_mix,flat_mix,deep_mix,thin_mix,shal_mix,Nat.beq_refl];done)) rfl rfl ?_) | refine Exists.imp (fun r h=>h) (aCall_guard0 (fun hg=>con) (by first | rfl | (simp only [toArgs,toArg,toCell,toCells,toRows,Option.map_some,idx,row_mk,List.getElem?_cons_zero,List.getElem?_cons_succ,Option.bind_some,Blk.row,fillK_mix,thK_mix,flat_mix,deep_mix,thin_mix,shal_mix,cond_true,List.map_take];done) | (simp [toArgs,toArg,toCell,toCells,toRows,idx,row_mk,Blk.row,fillK_mix,thK_mix,flat_mix,deep_mix,thin_mix,shal_mix,Nat.beq_refl];done)) rfl rfl ?_) | refine Exists.imp (fun r h=>h) (aCall_guard (by first | (intros;trivial) | (intros;simp_all;done)) (fun hg=>con) (by first | rfl | (simp only [toArgs,toArg,toCell,toCells,toRows,Option.map_some,idx,row_mk,List.getElem?_cons_zero,List.getElem?_cons_succ,Option.bind_some,Blk.row,fillK_mix,thK_mix,flat_mix,deep_mix,thin_mix,shal_mix,cond_true,List.map_take];done) | (simp [toArgs,toArg,toCell,toCells,toRows,idx,row_mk,Blk.row,fillK_mix,thK_mix,flat_mix,deep_mix,thin_mix,shal_mix,Nat.beq_refl];done)) rfl rfl ?_)
        refine k _ ?_;clear k K;exact b.h):aAny P L rg K (fuel+1) listed s:=e con b hr hi
end Go.Vm
namespace Go.Vm
open Go
def opNo (o:Oper):Nat:=(match o.op with
  | .move _=>0
  | .assign _=>2
  | .pick _ _ _=>4
  | .alloc _=>6
  | .box _ _=>8
  | .build _ _=>10
  | .buildSlice _ _ _=>12
  | .load _ _=>14
  | .store _ _ _=>16
  | .nilCheck _=>18
  | .unOp _ _ _=>26
  | .convert _ _ _=>28
  | .makeSlice _ _ _=>30
  | .slice _ _ _ _ _=>32
  | .fieldAddr _ _ _=>34
  | .field _ _ _=>36
  | .indexAddr _ _ _=>38
  | .index _ _ _=>40
  | .extract _ _=>42
  | .makeFunc _ _ _=>56
  | .binOp b _ _ y _=>(match y with
    | .const (.slice _ _ _)=>90
    | _=>match b with
      | .add | .sub | .mul | .quo=>22
      | _=>20)
  | .call c=>(match c.callee with
    | .builtin .len=>44
    | .builtin .append=>46
    | .builtin .max=>48
    | .builtin .min=>50
    | .builtin .copy=>52
    | .builtin .clear=>54
    | _=>60)
  | _=>90)+(match o.guard with
  | none=>0
  | _=>1)
theorem opIs {P:Program} {L:Lend} {rg:Array Oper} {K:St→Prop} {o:Oper} {rest:List Oper} {s:St} (n:Nat) (hn:opNo o=n) (h:aOps P L rg K (o::rest) s):aOps P L rg K (o::rest) s:=h
structure Ks (ks:List Nat):Prop where
  t:True
theorem v_seqK {P:Program} {L:Lend} {m:Nat} {Q:AEx→St→Prop} {s:St} {id:Nat} {ops:Array Oper} {y:Code} {ks:List Nat} (_:Ks ks)
    (h:∀K:St→Prop,(∀s,awp P L m y Q (s.keep ks)→K s)→aOps P L ops K ops.toList s):awp P L m (.seq (.region id ops false) y) Q s:=v_seqR ks h
theorem rA {R:St→Prop} {Q:AEx→St→Prop} {x:AEx} {s:St} (h:∀s,R s→Q x s) (g:R s):Q x s:=h s g
theorem eA {R:Nat→St→Prop} {Q:AEx→St→Prop} {i:Nat} {s:St} (h:∀i s,R i s→Q (.exit i) s) (g:R i s):Q (.exit i) s:=h i s g
theorem eB {R:Nat→St→Prop} {Q:AEx→St→Prop} {i j:Nat} {s:St} (h:∀i s,i≠j→R i s→Q (.exit i) s) (hi:i≠j) (g:R i s):Q (.exit i) s:=h i s hi g
theorem nA {m:Nat} {ks:List Nat} {A:St→Prop} {Q:AEx→St→Prop} {s:St} (_:Ks ks) (h:∀s s1,Weak m s s1→A s1→Q .normal s) (g:A (s.keep ks)):Q .normal s:=h _ _ (weak_keep ks s) g
theorem zz {A B:Prop} (b:Ho B) (e:Ho B→A:=by
  intro b;repeat (first
    | (refine opIs 0 rfl ?_;refine zMove ⟨?_⟩)
    | (refine opIs 14 rfl ?_;refine zLoad ⟨?_⟩)
    | (refine opIs 20 rfl ?_;refine zBinOp ⟨?_⟩)
    | (refine opIs 2 rfl ?_;refine zAssign ⟨?_⟩)
    | (refine opIs 34 rfl ?_;refine zFieldAddr ⟨?_⟩)
    | (refine opIs 38 rfl ?_;refine zIndexAddr ⟨?_⟩)
    | (refine opIs 16 rfl ?_;refine zStore ⟨?_⟩)
    | (refine opIs 42 rfl ?_;refine zExtract ⟨?_⟩)
    | (refine opIs 44 rfl ?_;refine zLen ⟨?_⟩)
    | (refine opIs 22 rfl ?_;refine zBinOpW ⟨?_⟩)
    | (refine opIs 28 rfl ?_;refine zConvert ⟨?_⟩)
    | (refine opIs 26 rfl ?_;refine zUnOp ⟨?_⟩)
    | (refine opIs 32 rfl ?_;refine zSlice ⟨?_⟩)
    | (refine opIs 6 rfl ?_;refine zAlloc ⟨?_⟩)
    | (refine opIs 8 rfl ?_;refine zBox ⟨?_⟩)
    | (refine opIs 10 rfl ?_;refine zBuild ⟨?_⟩)
    | (refine opIs 12 rfl ?_;refine zBuildSlice ⟨?_⟩)
    | (refine opIs 46 rfl ?_;refine zAppend ⟨?_⟩)
    | (refine opIs 4 rfl ?_;refine zPick ⟨?_⟩)
    | (refine opIs 18 rfl ?_;refine zNilCheck ⟨?_⟩)
    | (refine opIs 30 rfl ?_;refine zMakeSlice ⟨?_⟩)
    | (refine opIs 36 rfl ?_;refine zField ⟨?_⟩)
    | (refine opIs 40 rfl ?_;refine zIndex ⟨?_⟩)
    | (refine opIs 48 rfl ?_;refine zMax ⟨?_⟩)
    | (refine opIs 50 rfl ?_;refine zMin ⟨?_⟩)
    | (refine opIs 52 rfl ?_;refine zCopy ⟨?_⟩)
    | (refine opIs 54 rfl ?_;refine zClear ⟨?_⟩)
    | (refine opIs 56 rfl ?_;refine zMakeFunc ⟨?_⟩)
    | (refine opIs 1 rfl ?_;refine zgMove ⟨?_⟩)
    | (refine opIs 15 rfl ?_;refine zgLoad ⟨?_⟩)
    | (refine opIs 21 rfl ?_;refine zgBinOp ⟨?_⟩)
    | (refine opIs 3 rfl ?_;refine zgAssign ⟨?_⟩)
    | (refine opIs 35 rfl ?_;refine zgFieldAddr ⟨?_⟩)
    | (refine opIs 39 rfl ?_;refine zgIndexAddr ⟨?_⟩)
    | (refine opIs 17 rfl ?_;refine zgStore ⟨?_⟩)
    | (refine opIs 43 rfl ?_;refine zgExtract ⟨?_⟩)
    | (refine opIs 45 rfl ?_;refine zgLen ⟨?_⟩)
    | (refine opIs 23 rfl ?_;refine zgBinOpW ⟨?_⟩)
    | (refine opIs 29 rfl ?_;refine zgConvert ⟨?_⟩)
    | (refine opIs 27 rfl ?_;refine zgUnOp ⟨?_⟩)
    | (refine opIs 33 rfl ?_;refine zgSlice ⟨?_⟩)
    | (refine opIs 7 rfl ?_;refine zgAlloc ⟨?_⟩)
    | (refine opIs 9 rfl ?_;refine zgBox ⟨?_⟩)
    | (refine opIs 11 rfl ?_;refine zgBuild ⟨?_⟩)
    | (refine opIs 13 rfl ?_;refine zgBuildSlice ⟨?_⟩)
    | (refine opIs 47 rfl ?_;refine zgAppend ⟨?_⟩)
    | (refine opIs 5 rfl ?_;refine zgPick ⟨?_⟩)
    | (refine opIs 19 rfl ?_;refine zgNilCheck ⟨?_⟩)
    | (refine opIs 31 rfl ?_;refine zgMakeSlice ⟨?_⟩)
    | (refine opIs 37 rfl ?_;refine zgField ⟨?_⟩)
    | (refine opIs 41 rfl ?_;refine zgIndex ⟨?_⟩)
    | (refine opIs 49 rfl ?_;refine zgMax ⟨?_⟩)
    | (refine opIs 51 rfl ?_;refine zgMin ⟨?_⟩)
    | (refine opIs 53 rfl ?_;refine zgCopy ⟨?_⟩)
    | (refine opIs 55 rfl ?_;refine zgClear ⟨?_⟩)
    | (refine opIs 57 rfl ?_;refine zgMakeFunc ⟨?_⟩))
  exact b.h):A:=e b
theorem zr {A B:Prop} (b:Ho B) (e:Ho B→A:=by
  intro b;refine v_ret ?_;repeat (refine rA (by assumption) ?_)
  refine zf ⟨?_⟩;exact b.h):A:=e b
theorem zn (ks:List Nat) {A B:Prop} (b:Ho B) (e:Ks ks→Ho B→A:=by
  intro q b;first | refine v_skip ?_ | refine v_exit ?_ | skip
  repeat (first | refine rA (by assumption) ?_ | refine eA (by assumption) ?_ | refine eB (by assumption) (by decide) ?_)
  refine nA q (by assumption) ?_;simp only [keep_mk,keepE_nil,keepE_cons,look_cons,look_nil,Nat.reduceEqDiff,reduceIte];exact b.h):A:=e ⟨trivial⟩ b
theorem yR (ks:List Nat) {A B:Prop} (b:Ho B) (e:Ks ks→Ho B→A:=by
  intro q b;refine v_seqK q ?_;intro K k;refine zz ⟨?_⟩;refine k _ ?_;clear k K;simp only [keep_mk,keepE_nil,keepE_cons,look_cons,look_nil,Nat.reduceEqDiff,reduceIte];exact b.h):A:=e ⟨trivial⟩ b
theorem yQ (ks:List Nat) {A B:Prop} (b:Ho B) (e:Ks ks→Ho B→A:=by
  intro q b;refine v_region ?_;intro K k;refine zz ⟨?_⟩;refine k _ ?_;clear k K;repeat (first | refine rA (by assumption) ?_ | refine eA (by assumption) ?_ | refine eB (by assumption) (by decide) ?_)
  refine nA q (by assumption) ?_;simp only [keep_mk,keepE_nil,keepE_cons,look_cons,look_nil,Nat.reduceEqDiff,reduceIte];exact b.h):A:=e ⟨trivial⟩ b
theorem yV {A B:Prop} (b:Ho B) (e:Ho B→A:=by
  intro b;refine v_region ?_;intro K k;refine zz ⟨?_⟩;refine k _ ?_;clear k K;repeat (first | refine rA (by assumption) ?_ | refine eA (by assumption) ?_ | refine eB (by assumption) (by decide) ?_)
  exact b.h):A:=e b
theorem yRc (ks:List Nat) {C0 A B:Prop} (con0:C0) (b:Ho B) (e:Ks ks→C0→Ho B→A:=by
  intro q con0 b;refine v_seqK q ?_;intro K k;refine zz ⟨?_⟩;refine zc con0 ⟨?_⟩;refine zz ⟨?_⟩;refine k _ ?_;clear k K;simp only [keep_mk,keepE_nil,keepE_cons,look_cons,look_nil,Nat.reduceEqDiff,reduceIte];exact b.h):A:=e ⟨trivial⟩ con0 b
theorem yRg (ks:List Nat) {C0 A B:Prop} (con0:C0) (b:Ho B) (e:Ks ks→C0→Ho B→A:=by
  intro q con0 b;refine v_seqK q ?_;intro K k;refine zz ⟨?_⟩;refine zgc con0 ⟨?_⟩;refine zz ⟨?_⟩;refine k _ ?_;clear k K;simp only [keep_mk,keepE_nil,keepE_cons,look_cons,look_nil,Nat.reduceEqDiff,reduceIte];exact b.h):A:=e ⟨trivial⟩ con0 b
theorem yRl (ks:List Nat) {C0 A B:Prop} (con0:C0) (b:Ho B) (e:Ks ks→C0→Ho B→A:=by
  intro q con0 b;refine v_seqK q ?_;intro K k;refine zz ⟨?_⟩;refine zcl con0 ⟨?_⟩;refine zz ⟨?_⟩;refine k _ ?_;clear k K;simp only [keep_mk,keepE_nil,keepE_cons,look_cons,look_nil,Nat.reduceEqDiff,reduceIte];exact b.h):A:=e ⟨trivial⟩ con0 b
theorem yRcc (ks:List Nat) {C0 C1 A B:Prop} (con0:C0) (con1:C1) (b:Ho B) (e:Ks ks→C0→C1→Ho B→A:=by
  intro q con0 con1 b;refine v_seqK q ?_;intro K k;refine zz ⟨?_⟩;refine zc con0 ⟨?_⟩;refine zz ⟨?_⟩;refine zc con1 ⟨?_⟩;refine zz ⟨?_⟩;refine k _ ?_;clear k K;simp only [keep_mk,keepE_nil,keepE_cons,look_cons,look_nil,Nat.reduceEqDiff,reduceIte];exact b.h):A:=e ⟨trivial⟩ con0 con1 b
theorem yRcg (ks:List Nat) {C0 C1 A B:Prop} (con0:C0) (con1:C1) (b:Ho B) (e:Ks ks→C0→C1→Ho B→A:=by
  intro q con0 con1 b;refine v_seqK q ?_;intro K k;refine zz ⟨?_⟩;refine zc con0 ⟨?_⟩;refine zz ⟨?_⟩;refine zgc con1 ⟨?_⟩;refine zz ⟨?_⟩;refine k _ ?_;clear k K;simp only [keep_mk,keepE_nil,keepE_cons,look_cons,look_nil,Nat.reduceEqDiff,reduceIte];exact b.h):A:=e ⟨trivial⟩ con0 con1 b
theorem yRgg (ks:List Nat) {C0 C1 A B:Prop} (con0:C0) (con1:C1) (b:Ho B) (e:Ks ks→C0→C1→Ho B→A:=by
  intro q con0 con1 b;refine v_seqK q ?_;intro K k;refine zz ⟨?_⟩;refine zgc con0 ⟨?_⟩;refine zz ⟨?_⟩;refine zgc con1 ⟨?_⟩;refine zz ⟨?_⟩;refine k _ ?_;clear k K;simp only [keep_mk,keepE_nil,keepE_cons,look_cons,look_nil,Nat.reduceEqDiff,reduceIte];exact b.h):A:=e ⟨trivial⟩ con0 con1 b
theorem yRcgg (ks:List Nat) {C0 C1 C2 A B:Prop} (con0:C0) (con1:C1) (con2:C2) (b:Ho B) (e:Ks ks→C0→C1→C2→Ho B→A:=by
  intro q con0 con1 con2 b;refine v_seqK q ?_;intro K k;refine zz ⟨?_⟩;refine zc con0 ⟨?_⟩;refine zz ⟨?_⟩;refine zgc con1 ⟨?_⟩;refine zz ⟨?_⟩;refine zgc con2 ⟨?_⟩;refine zz ⟨?_⟩;refine k _ ?_;clear k K;simp only [keep_mk,keepE_nil,keepE_cons,look_cons,look_nil,Nat.reduceEqDiff,reduceIte];exact b.h):A:=e ⟨trivial⟩ con0 con1 con2 b
theorem yR3 (ks:List Nat) {C0 A B:Prop} (con0:C0) (b:Ho B) (e:Ks ks→C0→Ho B→A:=by
  intro q con0 b;refine v_seqK q ?_;intro K k;refine zz ⟨?_⟩;refine zcl3 con0 ⟨?_⟩;refine zz ⟨?_⟩;refine k _ ?_;clear k K;simp only [keep_mk,keepE_nil,keepE_cons,look_cons,look_nil,Nat.reduceEqDiff,reduceIte];exact b.h):A:=e ⟨trivial⟩ con0 b
theorem yQc (ks:List Nat) {C0 A B:Prop} (con0:C0) (b:Ho B) (e:Ks ks→C0→Ho B→A:=by
  intro q con0 b;refine v_region ?_;intro K k;refine zz ⟨?_⟩;refine zc con0 ⟨?_⟩;refine zz ⟨?_⟩;refine k _ ?_;clear k K;repeat (first | refine rA (by assumption) ?_ | refine eA (by assumption) ?_ | refine eB (by assumption) (by decide) ?_)
  refine nA q (by assumption) ?_;simp only [keep_mk,keepE_nil,keepE_cons,look_cons,look_nil,Nat.reduceEqDiff,reduceIte];exact b.h):A:=e ⟨trivial⟩ con0 b
theorem yVc {C0 A B:Prop} (con0:C0) (b:Ho B) (e:C0→Ho B→A:=by
  intro con0 b;refine v_region ?_;intro K k;refine zz ⟨?_⟩;refine zc con0 ⟨?_⟩;refine zz ⟨?_⟩;refine k _ ?_;clear k K;repeat (first | refine rA (by assumption) ?_ | refine eA (by assumption) ?_ | refine eB (by assumption) (by decide) ?_)
  exact b.h):A:=e con0 b
theorem yVg {C0 A B:Prop} (con0:C0) (b:Ho B) (e:C0→Ho B→A:=by
  intro con0 b;refine v_region ?_;intro K k;refine zz ⟨?_⟩;refine zgc con0 ⟨?_⟩;refine zz ⟨?_⟩;refine k _ ?_;clear k K;repeat (first | refine rA (by assumption) ?_ | refine eA (by assumption) ?_ | refine eB (by assumption) (by decide) ?_)
  exact b.h):A:=e con0 b
theorem yVl {C0 A B:Prop} (con0:C0) (b:Ho B) (e:C0→Ho B→A:=by
  intro con0 b;refine v_region ?_;intro K k;refine zz ⟨?_⟩;refine zcl con0 ⟨?_⟩;refine zz ⟨?_⟩;refine k _ ?_;clear k K;repeat (first | refine rA (by assumption) ?_ | refine eA (by assumption) ?_ | refine eB (by assumption) (by decide) ?_)
  exact b.h):A:=e con0 b
end Go.Vm
namespace Go.Vm
open Go
def KeepO (O O':List Blk):Prop:=∀(id:Nat) (b:Blk),id≠0→O[id]? =some b→O'[id]? =some b
theorem KeepO.refl (O:List Blk):KeepO O O:=fun _ _ _ h=>h
theorem KeepO.app {O new:List Blk}:KeepO O (O++new):=fun id b _ h=>Grow.app O new id b h
abbrev TyG:=List Blk→(Nat→V)→Prop
def TyOK (T:TyG) (dl:List Nat):Prop:=∀O O' g g',KeepO O O'→(∀x∈dl,g' x=g x)→T O g→T O' g'
def aftOf (rg:Array Oper) (j:Nat):List Nat:=match rg[j]? with
  | some o=>(o.after.toList.filter fun e=>Go.Region.binds .any e).map (·.on)
  | none=>[]
def PostO (cv:Int→Int→Blk) (n:Nat) (env:List (Nat×V)) (mask:Nat) (O:List Blk) (a cm:Int) (d:Option Nat) (T:TyG) (t':St):Prop:=
  ∃v O' a' s',t'=(⟨env,O',false,n,mask⟩:St).set d v∧KeepO O O'∧O'[0]? =some (cv a' s')∧a≤a'∧a'≤a+cm∧T O' t'.get
def OpOK (P:Program) (L:Lend) (rg:Array Oper) (cv:Int→Int→Blk) (n:Nat) (a0 cm:Int) (T0:TyG) (Ts:Nat→TyG) (i:Nat) (o:Oper):Prop:=
  ∀ env O mask a s,O[0]? =some (cv a s)→(a0≤a∧a≤a0+cm * rg.size)→T0 O (fun x=>look x env)→(∀j∈aftOf rg i,Ts j O (fun x=>look x env))→
    ∀K':St→Prop,(∀s,PostO cv n env mask O a cm o.dst (Ts i) s→K' s)→aStep P L rg o ⟨env,O,false,n,mask⟩ K'
section
variable {P:Program} {L:Lend} {rg:Array Oper} {K:St→Prop}
end
end Go.Vm
namespace Go.Vm
open Go
def tYes:TyG:=fun _ _=>True
def TyOKs:List TyG→List (List Nat)→Prop
  | T::l,d::ds=>TyOK T d∧TyOKs l ds
  | [],[]=>True
  | _,_=>False
theorem TyOKs.get:∀{l:List TyG} {ds:List (List Nat)},TyOKs l ds→∀j,j < l.length→TyOK (l.getD j tYes) (ds.getD j [])∧j < ds.length
  | T::l,d::ds,h,0,_=>⟨h.1,by simp⟩
  | T::l,d::ds,h,j+1,hj=>by
    have:=TyOKs.get h.2 j (by simpa using hj);exact ⟨this.1,by simpa using this.2⟩
  | [],[],_,j,hj=>by simp at hj
  | [],_::_,h,_,_=>h.elim
  | _::_,[],h,_,_=>h.elim
section
variable {P:Program} {L:Lend} {rg:Array Oper} {K:St→Prop} {cv:Int→Int→Blk} {n:Nat} {a0 cm:Int} {T0:TyG} {TL:List TyG}
def OpsOK (P:Program) (L:Lend) (rg:Array Oper) (cv:Int→Int→Blk) (n:Nat) (a0 cm:Int) (T0:TyG) (TL:List TyG):List Nat→Prop
  | []=>True
  | i::l=>(∀o,rg[i]? =some o→OpOK P L rg cv n a0 cm T0 (fun j=>TL.getD j tYes) i o)∧OpsOK P L rg cv n a0 cm T0 TL l
theorem OpsOK.get:∀{l:List Nat},OpsOK P L rg cv n a0 cm T0 TL l→∀i∈l,∀o,rg[i]? =some o→OpOK P L rg cv n a0 cm T0 (fun j=>TL.getD j tYes) i o
  | x::l,h,i,hi,o,ho=>by
    rcases qly.1 hi with rfl | hi
    · exact h.1 o ho
    · exact h.2.get i hi o ho
end
def BkAll (ρ:Nat→Nat) (O:List Blk):List Nat→List Blk→Prop
  | i::is,b::bs=>O[i]? =some (b.renM ρ)∧BkAll ρ O is bs
  | [],[]=>True
  | _,_=>False
theorem BkAll.get {ρ:Nat→Nat} {O:List Blk}:∀{is:List Nat} {bs:List Blk},BkAll ρ O is bs→∀j b,bs[j]? =some b→O[is.getD j 0]? =some (b.renM ρ)
  | i::is,b::bs,h,0,c,e=>by simp at e;subst e;exact h.1
  | i::is,b::bs,h,j+1,c,e=>by
    have:=BkAll.get h.2 j c (by simpa using e);simpa using this
  | [],[],_,j,c,e=>by simp at e
  | _::_,[],h,_,_,_=>h.elim
  | [],_::_,h,_,_,_=>h.elim
end Go.Vm
namespace Go.Vm
open Go
end Go.Vm
namespace Go.Vm
open Go
end Go.Vm
namespace Go.Vm
open Go
section
variable {w:World} {μ:Nat→Option Loc}
end
section
variable {P:Program} {L:Lend} {s:St}
end
end Go.Vm
namespace Go.Vm
open Go
theorem zPs {A B:Prop} (b:Ho B) (e:Ho B→A:=by
  intro b;refine v_passB rfl rfl rfl ?_ ?_
  · first | rfl | (simp only [zV,guardV,Nat.reduceEqDiff,reduceIte];done)
  simp only [zW,set_some,Nat.reduceEqDiff,reduceIte];exact b.h):A:=e b
theorem ztc {C A B:Prop} (con:C) (b:Ho B) (e:C→Ho B→A:=by
  intro con b;refine v_opT _ _ rfl (by first | rfl | (simp only [zV,guardV,Nat.reduceEqDiff,reduceIte];done)) (Nat.le_of_ble_eq_true rfl) ?_;intro K k;simp only [zE,zM,aStepM,optable,set_some,Nat.reduceEqDiff,reduceIte,Nat.reduceLT,implies_true,forall_const,reduceCtorEq,V.ofValue,V.ofScalar,V.un,V.gd,aExec,lentIds,lendOf,‹Tys _›.h,‹Fc _›.h];repeat (refine andC ?_)
  refine aCall_new con (by first | rfl | (simp only [toArgs,toArg,toCell,toCells,toRows,Option.map_some,idx,row_mk,List.getElem?_cons_zero,List.getElem?_cons_succ,Option.bind_some,Blk.row,fillK_mix,thK_mix,flat_mix,deep_mix,thin_mix,shal_mix,cond_true,List.map_take];done) | (simp [toArgs,toArg,toCell,toCells,toRows,idx,row_mk,Blk.row,fillK_mix,thK_mix,flat_mix,deep_mix,thin_mix,shal_mix,Nat.beq_refl];done)) (by first | exact .inl ⟨rfl,by simp [Blk.kindIs,fillK_fd,thK_fd]⟩ | exact .inr (by simp [V.cold])) ?_;refine k _ ?_;clear k K;simp only [zY,zW,set_some,Nat.reduceEqDiff,reduceIte,V.ren,V.renL,rho,Nat.reduceAdd];exact b.h):A:=e con b
end Go.Vm
