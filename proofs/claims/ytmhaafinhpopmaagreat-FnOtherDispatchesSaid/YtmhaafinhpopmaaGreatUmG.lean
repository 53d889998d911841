/- The value machine, part 7. -/
import Derived.Sort.Grow
import Derived.Lib.LaidTab
import Derived.Lib.Join
import Derived.Below
import Derived.Deep.Draws
import Derived.Test.YtmhaafinhpopmaaGreatUmF
set_option linter.unusedSimpArgs false
set_option linter.unusedVariables false
set_option linter.defProp false
namespace Go.Vm
open Go
section
variable {α:Type} {f:α→V}
end
end Go.Vm
namespace Go.Vm
open Go
end Go.Vm
namespace Go.Vm
open Go
end Go.Vm
namespace Go.Vm
open Go
theorem fillK_thin (i:Nat):(fillK i≠.thin)=True:=by grind[fillK]
theorem weak_view {m:Nat} {s:St}:Weak m s {s with vw:=true}:=fun cx a w μ ow hmu h=>
  ⟨μ,ow,⟨h.dfr,h.sz,fun t=>by
    obtain ⟨bl,r1,r2⟩:=h.env t;exact ⟨bl,r1,fun b hb=>(r2 b hb).mono rfl (fun _=>rfl)⟩,fun id bk e=>(h.blk id bk e).keep (MLe.refl μ) (fun _=>rfl) (fun b _ _=>⟨rfl,rfl⟩),h.dom,h.owl,h.own,h.frm,h.mu⟩⟩
def atSlot (t:Nat) (v:V) (l:List (Nat×V)):List (Nat×V):=l.map fun p=>if p.1=t then (p.1,v) else p
theorem look_atSlot (t:Nat) (v:V):∀(l:List (Nat×V)) (k:Nat),(look t l≠.any∨k≠t)→look k (atSlot t v l)=if k=t then v else look k l
  | [],k,h=>by
    rcases h with h | h
    · exact absurd rfl h
    · simp [atSlot,look,h]
  | (j, x)::l,k,h=>by
    show look k ((if j=t then (j,v) else (j,x))::atSlot t v l)=_
    by_cases hj:j=t
    · subst hj
      rw [if_pos rfl,look_cons,look_cons]
      by_cases hk:k=j
      · grind
      · rw [if_neg hk,if_neg hk,if_neg hk,look_atSlot j v l k (.inr hk),if_neg hk]
    · rw [if_neg hj,look_cons,look_cons]
      by_cases hk:k=j
      · grind
      · rw [if_neg hk,if_neg hk]
        refine look_atSlot t v l k ?_;rcases h with h | h
        · rw [look_cons] at h
          grind
        omega
theorem atSlot_cons (t k:Nat) (v x:V) (l:List (Nat×V)):atSlot t v ((k,x)::l)=(if k=t then (k,v) else (k,x))::atSlot t v l:=rfl
theorem atSlot_nil (t:Nat) (v:V):atSlot t v []=[]:=rfl
theorem ret_refK {s:St} {k:Nat} {xs ys:List V} {kd:Kd} (hO:s.O[k]? =some (.arr xs kd)) (hk:(kd != .shal && kd.nm)=true) (e:xs=ys):RetOK 0 s (.ref k) (.ref 0) [.arr ys kd]:=by
  subst e;have hf:(refsOf (.ref k)).filter (fun id=>Nat.ble 0 id)=[k]:=by rfl
  unfold RetOK;simp only [hf];simp only [Bool.and_eq_true] at hk;refine ⟨⟨by simp [V.only,idx],by simp,qlk _⟩,by simp [V.ren,outNo,idx],by grind,?_,.inr ⟨by rfl,?_⟩⟩
  · intro bk hb
    rw [qli] at hb;subst hb;exact hk.2
  · intro bk hb
    rw [qli] at hb;subst hb;show (kd != .shal && kd.nm)=true
    grind
theorem ret_gen {s:St} {v r:V} {O':List Blk} (ids:List Nat) (h1:refsOf v=ids) (h2:v.only (fun id=>(idx ids id).isSome)=true) (h3:ids.Nodup)
    (h4:v.ren (fun id=>(idx ids id).getD 0)=r) (h5:(ids.map fun id=>s.O.getD id .dead)=O') (h6:∀bk∈O',bk.kindIs (fun k=>k != .shal && k.nm)=true) (h7:v.clean=true):RetOK 0 s v r O':=by
  subst h4 h5;have hf:(refsOf v).filter (fun id=>Nat.ble 0 id)=ids:=by rw [h1];exact List.filter_eq_self.2 fun _ _=>rfl
  have ho:outNo 0 ids=fun id=>(idx ids id).getD 0:=by
    funext id
    simp [outNo]
  unfold RetOK;simp only [hf,ho];refine ⟨⟨only_mono (fun id h=>by simpa using h) h2,h3,qlk _⟩,trivial,by simp,fun bk hb=> ?_,.inr ⟨h7,h6⟩⟩;have:=h6 bk hb;cases bk with
  | dead=>simp [Blk.kindIs] at this⊢
  | hid j' n'=>simp [Blk.kindIs] at this
  | arr xs k=>cases k<;>simp_all [Blk.kindIs,Kd.nm]
  | box x k=>cases k<;>simp_all [Blk.kindIs,Kd.nm]
theorem Con.thin {P:Program} {f:FuncId} {args:List V} {r:V} {xs:List V} (h:Con P f args [] r [.arr xs .flat]):Con P f args [] r [.arr xs .thin]:=by
  refine ⟨h.1,fun w vals μ ow vis hi=>(h.2 w vals μ ow vis hi).mono ?_⟩;rintro e w' ⟨v,μ',ow',he,hout⟩;refine ⟨v,μ',ow',he,hout.rep,fun id bk hb=> ?_,?_,hout.same,hout.len,hout.dom,hout.owl,hout.own,hout.frm⟩
  · cases id with
    | zero=>
      simp only [List.getElem?_cons_zero,Option.some.injEq] at hb;subst hb;obtain ⟨l,q1,q2,q3⟩:=hout.blk 0 (.arr xs .flat) rfl;refine ⟨l,q1,q2,?_⟩;rcases q3 with q3 | ⟨q3,q4,bl,q5,q6,q7⟩
      · grind
      · exact .inr ⟨q3,q4,bl,q5,q6,fun q=>absurd rfl q⟩
    | succ n=>grind
  · intro bk hb
    rw [qli] at hb;subst hb;rfl
theorem join_t:kdJoin .thin false false=some .thin:=rfl
theorem thin_mix:Kd.thin.nm=true:=rfl
theorem shal_mix:Kd.shal.nm=true:=rfl
theorem nil_eql:(BinOp.eql == BinOp.neq)=false:=rfl
theorem nil_neq:(BinOp.neq == BinOp.neq)=true:=rfl
structure Caps (caps:List V):Prop where
  cc:∀s ls,toCells s ls caps=some caps
  ca:∀s,toArgs s [] caps=some caps
  cn:∀p,V.onlyL p caps=true
  cr:∀ρ,V.renL ρ caps=caps
theorem Caps.nil:Caps []:=⟨fun _ _=>rfl,fun _=>rfl,fun _=>by rfl,fun _=>rfl⟩
theorem Caps.pv {caps:List V} (xs:List V) (h:Caps caps):Caps (.pv xs 0 0::caps):=
  ⟨fun s ls=>by simp [toCells,toCell,h.cc],fun s=>by simp [toArgs,toArg,toCell,h.ca],fun p=>by simp [V.onlyL,V.only,h.cn],fun ρ=>by simp [V.renL,V.ren,h.cr]⟩
theorem weak_eq {m:Nat} {s:St} (s':St) (e:s=s'):Weak m s s':=e ▸ weak_refl m s
theorem rho_one (id n:Nat):rho [id] n 0=id:=rfl
theorem weak_freeze {m:Nat} {s:St} (b id:Nat) (xs:List V) (k:Kd) (hb:s.O[b]? =some (.box (.ref id) .mix)) (hO:s.O[id]? =some (.arr xs k)) (hk:k=.flat∨k=.deep∨k=.thin) (hne:b≠id) :
    Weak m s {s with O:=(s.O.set b (.box (.sl xs) .deep)).set id .dead}:=by
  intro cx a w μ ow hmu h;have hlb:b < s.O.length:=by
    grind
  have ht:takeCell s (.ref id)=some (.sl xs,[id],false):=by
    grind[takeCell,St.row,Blk.row]
  obtain ⟨l,q1,q2,q3⟩:=h.blk b _ hb;rcases q3 with ⟨_,q3⟩ | ⟨q3,q4,bl,q5,q6,_⟩
  · grind
  obtain ⟨c0,c1,c2,c,tc,vs,c4,c5,c6,c7,c8⟩:=q5;have c6':RepL w μ [V.ref id] vs bl:=c6;cases c6' with
  | cons _ x bx _ vs' bl2 r1 r2=>
    cases r2;obtain ⟨bl',t1,t2,t3,t4,_⟩:=takeCell_rep h.sup r1 (fun y hy=>q6 y (by grind)) ht;obtain ⟨nd,own⟩:=t4 rfl;refine ⟨μ,moveOw ow [id] b,h.mut (O':=(s.O.set b (.box (.sl xs) .deep)).set id .dead) (fun _=>False) (MLe.refl μ) (fun j hj=>h.dom j (by grind)) (qlu _) (fun _ _ _=>rfl) rfl rfl rfl (fun _ _=>rfl)
      (fun _ _ e=>moveOw_none e) (fun b j e=>.inr (moveOw_false e)) (fun j bk e=> ?_) (fun y hy=>h.owl y (moveOw_ne hy)) (fun y hy=>.inl (moveOw_ne hy))⟩
    by_cases hj:j=id
    · subst hj
      have hlid:j < (s.O.set b (.box (.sl xs) .deep)).length:=by
        grind
      rw [qlj hlid] at e;simp only [Option.some.injEq] at e;subst e;exact .inr trivial
    · rw [qlq (fun q=>hj q.symm)] at e
      by_cases hjb:j=b
      · subst hjb
        rw [qlj hlb] at e;simp only [Option.some.injEq] at e;subst e;right;refine ⟨l,q1,q2,.inr ⟨q3,(moveOw_keep q4 (by grind)).trans q4,bl',⟨c0,c1,?_,c,tc,[x],c4,c5,?_,?_,?_⟩,⟨nd,?_⟩,fun _=>by simp⟩⟩
        · intro y hy
          rw [qli] at hy;subst hy;exact c2 (.ref id) (by simp)
        · have:=RepL.cons (w:=w) (μ:=M0) _ x bl' [] [] [] t1 .nil
          rw [ql6] at this;exact this
        · omega
        · omega
        · intro y hy
          obtain ⟨i,hi,r,e⟩:=own y hy;exact moveOw_in e hi
      grind[List.getElem?_set_ne,moveOw_keep]
theorem beq_dec (m n:Nat):Nat.beq m n=decide (m=n):=by
  grind[Nat.beq,decide_eq_true,Nat.eq_of_beq_eq_true,decide_eq_false,Nat.beq_refl]
end Go.Vm
namespace Go.Vm
open Go
def SameShape (bk bk':Blk) (xs xs':List V) (k k':Kd):Prop:=
  (bk=.arr xs k∧bk'=.arr xs' k')∨(∃x x',bk=.box x k∧bk'=.box x' k'∧xs=[x]∧xs'=[x'])
theorem SameShape.ok {bk bk':Blk} {xs xs':List V} {k k':Kd} (h:SameShape bk bk' xs xs' k k') {cx:Cx} {w:World} {μ:Nat→Option Loc} {ow:Ow} {vw:Bool} {id:Nat} (hb:BlkOK cx w μ ow vw id bk):RowOK cx w μ ow vw id xs k:=by
  rcases h with ⟨rfl,_⟩ | ⟨x,x',rfl,_,rfl,_⟩<;>exact hb
theorem SameShape.ok' {bk bk':Blk} {xs xs':List V} {k k':Kd} (h:SameShape bk bk' xs xs' k k') {cx:Cx} {w:World} {μ:Nat→Option Loc} {ow:Ow} {vw:Bool} {id:Nat} (hb:RowOK cx w μ ow vw id xs' k'):BlkOK cx w μ ow vw id bk':=by
  rcases h with ⟨_,rfl⟩ | ⟨x,x',_,rfl,_,rfl⟩<;>exact hb
theorem weak_out {m:Nat} {s:St} (id:Nat) (bk bk':Blk) (xs xs' ys pre post:List V) (k kd:Kd) (hO:s.O[id]? =some bk) (hbk:SameShape bk bk' xs xs' k .part) (hk:k=.deep∨k=.part)
    (hc:xs.flatMap V.cells=pre++.sl ys::post) (hc':xs'.flatMap V.cells=pre++.ref s.O.length::post) (hlen:xs'.length=xs.length)
    (hsz:∀n,(∀x∈xs,x.cells.length=n)→∀x∈xs',x.cells.length=n) (hy:ys≠[]) (hkd:kd=.deep∨(kd=.flat∧ys.all V.noSl=true)) (hv:s.vw=false) :
    Weak m s {s with O:=s.O.set id bk'++[.arr ys kd]}:=by
  intro cx a w μ ow hmu h;have hid:id < s.O.length:=(qlc.1 hO).1;obtain ⟨l,hl1,hl2,hl3⟩:=hbk.ok (h.blk id _ hO);have hxne:xs≠[]:=by grind
  rcases hl3 with ⟨_,q2⟩ | ⟨q1,q2,bl,q3,q4,q5⟩
  · grind
  have hown:bl.Nodup∧∀b∈bl,ow b=some (false,id):=by rcases hk with e | e<;>subst e<;>exact q4
  obtain ⟨c1,c2,c3,c,t,vs,c4,c5,c6,c7,c8⟩:=q3;rw [hc] at c6;obtain ⟨x1,x23,b1,b23,ev1,eb1,r1,r23⟩:=RepL.split pre (.sl ys::post) c6;cases r23 with
  | cons _ x bx _ x3 b3 hx r3=>
    cases hx with
    | sl0=>grind
    | sl _ b off cc sz vs' bl2 h0 hcap hs hz hl' k1 hr=>
      have hbo:ow b=some (false,id):=hown.2 b (by grind);obtain ⟨cs,tt,hh⟩:=h.owl b (by rw [hbo];simp);let loc:Loc:=⟨b,off,sz,ys.length,cc,true⟩;have hcells:Cells w M0 loc ys bl2:=by
        refine ⟨hcap.1,hs,hz,cs,tt,vs',hh,?_,hl',k1,fun j y hj=> ?_⟩
        · obtain ⟨cs2,t2,fr2,e2,e3⟩:=hcap.2
          grind
        · have:=hr j y hj
          grind[cell_of_row]
      let N:=s.O.length;let ow':Ow:=fun y=>if y=b then some (true,N) else if y∈bl2 then some (false,N) else ow y
      let μ':Nat→Option Loc:=fun j=>if j=N then some loc else μ j
      have hnd:=hown.1;rw [eb1] at hnd;obtain ⟨hn1,hn23,hn1x⟩:=List.nodup_append.1 hnd;obtain ⟨hnb,hn3,hnbx⟩:=List.nodup_append.1 hn23;obtain ⟨hnb2,hn2⟩:=List.nodup_cons.1 hnb;have hm:MLe μ μ':=by
        intro j lc e;have:j≠N:=fun q=>by rw [q,h.dom N (qlu _)] at e;cases e
        grind
      have howB:∀y,y∈b::bl2→ow y=some (false,id):=fun y hy=>hown.2 y (by grind)
      have hsame:∀y,y ∉ b::bl2→ow' y=ow y:=by
        grind
      have hsame':∀y,ow y≠some (false,id)→ow' y=ow y:=fun y hy=>hsame y fun q=>hy (howB y q)
      have hne:∀y,ow' y≠none→ow y≠none:=by
        grind
      have hvok:∀y,VOK cx ow s.vw y→VOK cx ow' s.vw y:=by
        intro y hb;rw [hv] at hb⊢;have h0:ow y=none:=hb.1.resolve_right (by simp);exact ⟨.inl (by rw [hsame' y (by rw [h0];simp)];exact h0),hb.2⟩
      have hbne:∀y∈b1++b3,y ∉ b::bl2:=by
        grind
      refine ⟨μ',ow',h.dfr,h.sz,fun t=> ?_,fun j bk2 e=> ?_,fun j hj=> ?_,fun y hy=>h.owl y (hne y hy),fun y hy=>h.own y (hne y hy),h.frm,h.mu.trans hm⟩
      · obtain ⟨bt,g1,g2⟩:=h.env t
        exact ⟨bt,g1.keep hm fun _ _=>rfl,fun y hy=>hvok y (g2 y hy)⟩
      · rcases qly j N with hj | hj
        · rw [qlv (by grind)] at e
          by_cases hji:j=id
          · subst hji
            rw [qlj hid] at e;simp only [Option.some.injEq] at e;subst e;refine hbk.ok' ⟨l,hm _ _ hl1,by omega,.inr ⟨q1,?_,b1++b3,⟨by omega,c2,hsz _ c3,c,t,vs,c4,c5,?_,c7,c8⟩,⟨?_,?_⟩,fun _=> ?_⟩⟩
            · grind
            · rw [hc',ev1]
              have hkm:MLe (k.mu μ) μ':=(k.mu_le μ).trans hm;have hN:μ' N=some loc:=by simp [μ']
              have rr:Rep w μ' (.ref N) (.slice (some ⟨b,off,none⟩) ys.length cc) []:=.ref N loc _ hN (Hd.real (l:=loc) rfl);exact (r1.keep hkm fun _ _=>rfl).append (RepL.cons _ _ _ _ _ _ rr (r3.keep hkm fun _ _=>rfl))
            · grind
            · grind
            grind
          · rw [qlq (fun q=>hji q.symm)] at e
            refine (h.blk j bk2 e).keep hm (fun q=>q) fun y hyl hcc=>⟨rfl,hsame' y ?_⟩
            rcases hcc with q | q | q
            · rw [q];simp
            · rw [q];simp;exact hji
            · rw [hv] at q
              rw [q.1.resolve_right (by simp)];simp
        · rw [qlr (by rw [qln];exact hj),qln] at e
          have hjN:j=N:=by
            grind
          subst hjN;rw [Nat.sub_self,List.getElem?_cons_zero,Option.some.injEq] at e;subst e;have hmu0:kd.mu μ'=M0:=by rcases hkd with q | ⟨q,_⟩<;>subst q<;>rfl
          refine ⟨loc,by simp [μ',N],rfl,.inr ⟨rfl,by grind,bl2,by grind,?_,fun _=>hy⟩⟩;rcases hkd with q | ⟨q,hns⟩
          · subst q
            refine ⟨hn2,fun y hy2=> ?_⟩
            grind
          · subst q
            exact noSl_all hl' hns
      · have hj':N+1≤j:=by simpa [N] using hj
        have h1:j≠N:=by omega
        simp only [μ',h1,if_false];exact h.dom j (by show s.O.length≤j;omega)
theorem weak_outN {m:Nat} {s:St} (id:Nat) (bk bk':Blk) (xs xs' pre post:List V) (k:Kd) (hO:s.O[id]? =some bk) (hbk:SameShape bk bk' xs xs' k .part) (hk:k=.deep∨k=.part)
    (hc:xs.flatMap V.cells=pre++.nsl::post) (hc':xs'.flatMap V.cells=pre++.ref s.O.length::post) (hlen:xs'.length=xs.length)
    (hsz:∀n,(∀x∈xs,x.cells.length=n)→∀x∈xs',x.cells.length=n) :
    Weak m s {s with O:=s.O.set id bk'++[.arr [] .flat]}:=by
  intro cx a w μ ow hmu h;have hid:id < s.O.length:=(qlc.1 hO).1;obtain ⟨l,hl1,hl2,hl3⟩:=hbk.ok (h.blk id _ hO);have hxne:xs≠[]:=by grind
  rcases hl3 with ⟨_,q2⟩ | ⟨q1,q2,bl,q3,q4,q5⟩
  · grind
  have hown:bl.Nodup∧∀b∈bl,ow b=some (false,id):=by rcases hk with e | e<;>subst e<;>exact q4
  obtain ⟨c1,c2,c3,c,t,vs,c4,c5,c6,c7,c8⟩:=q3;rw [hc] at c6;obtain ⟨x1,x23,b1,b23,ev1,eb1,r1,r23⟩:=RepL.split pre (.nsl::post) c6;cases r23 with
  | cons _ x bx _ x3 b3 hx r3=>
    cases hx with
    | nsl ad =>
      let N:=s.O.length;let μ':Nat→Option Loc:=fun j=>if j=N then some nilLoc else μ j
      have hm:MLe μ μ':=by
        intro j lc e;have:j≠N:=fun q=>by rw [q,h.dom N (qlu _)] at e;cases e
        grind
      have hN:μ' N=some nilLoc:=by grind
      refine ⟨μ',ow,h.dfr,h.sz,fun t=> ?_,fun j bk2 e=> ?_,fun j hj=> ?_,h.owl,h.own,h.frm,h.mu.trans hm⟩
      · obtain ⟨bt,g1,g2⟩:=h.env t
        exact ⟨bt,g1.keep hm fun _ _=>rfl,g2⟩
      · rcases qly j N with hj | hj
        · rw [qlv (by grind)] at e
          by_cases hji:j=id
          · subst hji
            rw [qlj hid] at e;simp only [Option.some.injEq] at e;subst e;refine hbk.ok' ⟨l,hm _ _ hl1,by omega,.inr ⟨q1,q2,bl,⟨by omega,c2,hsz _ c3,c,t,vs,c4,c5,?_,c7,c8⟩,hown,fun _=> ?_⟩⟩
            · rw [hc',ev1,eb1]
              have hkm:MLe (k.mu μ) μ':=(k.mu_le μ).trans hm;have rr:Rep w μ' (.ref N) (.slice ad 0 0) []:=.ref N nilLoc _ hN (.nil ad rfl rfl);exact (r1.keep hkm fun _ _=>rfl).append (RepL.cons _ _ _ _ _ _ rr (r3.keep hkm fun _ _=>rfl))
            grind
          · rw [qlq (fun q=>hji q.symm)] at e
            exact (h.blk j bk2 e).keep hm (fun q=>q) fun y hyl hcc=>⟨rfl,rfl⟩
        · rw [qlr (by grind),qln] at e
          have hjN:j=N:=by
            grind
          subst hjN;rw [Nat.sub_self,List.getElem?_cons_zero,Option.some.injEq] at e;subst e;exact ⟨nilLoc,hN,rfl,.inl ⟨rfl,rfl⟩⟩
      · have hj':N+1≤j:=by grind
        have h1:j≠N:=by omega
        simp only [μ',h1,if_false];exact h.dom j (by omega)
theorem VOK.move {cx:Cx} {ow:Ow} {vw:Bool} {ids:List Nat} {id b:Nat} (h:VOK cx ow vw b):VOK cx (moveOw ow ids id) vw b:=
  ⟨h.1.imp moveOw_none fun ⟨q,_,e⟩=>⟨q,moveOw_false e⟩,h.2⟩
def WeakS (s s':St):Prop:=∀(cx:Cx) (a:Act) (w:World) (μ:Nat→Option Loc) (ow:Ow),Rel cx s a w μ ow→∃ow',Rel cx s' a w μ ow'∧∀b,VOK cx ow s.vw b→VOK cx ow' s.vw b
theorem WeakS.weak {m:Nat} {s s':St} (h:WeakS s s'):Weak m s s':=fun cx a w μ ow _ hr=>let ⟨ow',q,_⟩:=h cx a w μ ow hr;⟨μ,ow',q⟩
theorem weakS_in {s:St} (id j:Nat) (bk bk':Blk) (xs xs' ys pre post:List V) (kd:Kd) (hO:s.O[id]? =some bk) (hj:s.O[j]? =some (.arr ys kd)) (hne:id≠j) (hbk:SameShape bk bk' xs xs' .part .part) (hkd:kd=.flat∨kd=.deep∨kd=.thin)
    (hc:xs.flatMap V.cells=pre++.ref j::post) (hc':xs'.flatMap V.cells=pre++.sl ys::post) (hlen:xs'.length=xs.length)
    (hsz:∀n,(∀x∈xs,x.cells.length=n)→∀x∈xs',x.cells.length=n) :
    WeakS s {s with O:=(s.O.set id bk').set j .dead}:=by
  intro cx a w μ ow h;have hid:id < s.O.length:=(qlc.1 hO).1;have hjl:j < s.O.length:=(qlc.1 hj).1;have ht:takeCell s (.ref j)=some (.sl ys,[j],false):=by
    grind[takeCell,St.row,Blk.row]
  obtain ⟨l,hl1,hl2,hl3⟩:=hbk.ok (h.blk id _ hO);have hxne:xs≠[]:=by grind
  rcases hl3 with ⟨_,q2⟩ | ⟨q1,q2,bl,q3,q4,q5⟩
  · grind
  obtain ⟨c1,c2,c3,c,t,vs,c4,c5,c6,c7,c8⟩:=q3;rw [hc] at c6;obtain ⟨x1,x23,b1,b23,ev1,eb1,r1,r23⟩:=RepL.split pre (.ref j::post) c6;cases r23 with
  | cons _ x bx _ x3 b3 hx r3=>
    have hx':Rep w μ (.ref j) x bx:=hx;have hbx:bx=[]:=by cases hx';rfl
    subst hbx;obtain ⟨bl',t1,t2,t3,t4,_⟩:=takeCell_rep h.sup hx' (by simp) ht;obtain ⟨nd,own⟩:=t4 rfl;have e0:bl=b1++[]++b3:=by grind
    have hk0:KdOK cx ow s.vw id (b1++[]++b3) .part:=by grind
    have hkd2:=kd_joinS (cx:=cx) (ow:=ow) (k:=.part) (k':=.part) (id:=id) (ids:=[j]) (vi:=false) (vw:=s.vw) (b1:=b1) (b2:=[]) (b3:=b3) (bl':=bl') (.inr ⟨rfl,rfl,rfl⟩) hk0 (by grind) (by simp) (by simp) (fun _=>⟨nd,own⟩);refine ⟨moveOw ow [j] id,h.mut (O':=(s.O.set id bk').set j .dead) (fun _=>False) (MLe.refl μ) (fun i hi=>h.dom i (by grind)) (qlu _) (fun _ _ _=>rfl) rfl rfl rfl (fun _ _=>rfl)
      (fun _ _ e=>moveOw_none e) (fun b i e=>.inr (moveOw_false e)) (fun i bk2 e=> ?_) (fun y hy=>h.owl y (moveOw_ne hy)) (fun y hy=>.inl (moveOw_ne hy)),fun _ q=>q.move⟩
    by_cases hij:i=j
    · subst hij
      rw [qlj (by grind)] at e;simp only [Option.some.injEq] at e;subst e;exact .inr trivial
    · rw [qlq (fun q=>hij q.symm)] at e
      by_cases hii:i=id
      · subst hii
        rw [qlj hid] at e;simp only [Option.some.injEq] at e;subst e;right;refine hbk.ok' ⟨l,hl1,by omega,.inr ⟨q1,(moveOw_keep q2 (by grind)).trans q2,b1++bl'++b3,⟨by omega,c2,hsz _ c3,c,t,vs,c4,c5,?_,c7,c8⟩,hkd2,fun _ q=> ?_⟩⟩
        · rw [hc',ev1,qlw]
          exact r1.append (RepL.cons _ _ _ _ _ _ (t1.keep (MLe.zero _) fun _ _=>rfl) r3)
        grind
      grind[List.getElem?_set_ne,moveOw_keep]
theorem weak_in {m:Nat} {s:St} (id j:Nat) (bk bk':Blk) (xs xs' ys pre post:List V) (kd:Kd) (hO:s.O[id]? =some bk) (hj:s.O[j]? =some (.arr ys kd)) (hne:id≠j) (hbk:SameShape bk bk' xs xs' .part .part) (hkd:kd=.flat∨kd=.deep∨kd=.thin)
    (hc:xs.flatMap V.cells=pre++.ref j::post) (hc':xs'.flatMap V.cells=pre++.sl ys::post) (hlen:xs'.length=xs.length)
    (hsz:∀n,(∀x∈xs,x.cells.length=n)→∀x∈xs',x.cells.length=n) :
    Weak m s {s with O:=(s.O.set id bk').set j .dead}:=
  (weakS_in id j bk bk' xs xs' ys pre post kd hO hj hne hbk hkd hc hc' hlen hsz).weak
theorem weakS_inN {s:St} (id j:Nat) (bk bk':Blk) (xs xs' pre post:List V) (kd:Kd) (hO:s.O[id]? =some bk) (hj:s.O[j]? =some (.arr [] kd)) (hne:id≠j) (hbk:SameShape bk bk' xs xs' .part .part) (hkd:kd≠.thin)
    (hc:xs.flatMap V.cells=pre++.ref j::post) (hc':xs'.flatMap V.cells=pre++.nsl::post) (hlen:xs'.length=xs.length)
    (hsz:∀n,(∀x∈xs,x.cells.length=n)→∀x∈xs',x.cells.length=n) :
    WeakS s {s with O:=(s.O.set id bk').set j .dead}:=by
  intro cx a w μ ow h;have hid:id < s.O.length:=(qlc.1 hO).1;have hjl:j < s.O.length:=(qlc.1 hj).1;obtain ⟨l,hl1,hl2,hl3⟩:=hbk.ok (h.blk id _ hO);obtain ⟨lj,k1,k2,k3⟩:=h.blk j _ hj;have hxne:xs≠[]:=by grind
  rcases hl3 with ⟨_,q2⟩ | ⟨q1,q2,bl,q3,q4,q5⟩
  · grind
  have hreal:lj.real=false:=by
    grind
  obtain ⟨c1,c2,c3,c,t,vs,c4,c5,c6,c7,c8⟩:=q3;rw [hc] at c6;obtain ⟨x1,x23,b1,b23,ev1,eb1,r1,r23⟩:=RepL.split pre (.ref j::post) c6;cases r23 with
  | cons _ x bx _ x3 b3 hx r3=>
    have hx':Rep w μ (.ref j) x bx:=hx;obtain ⟨ad,rfl,rfl⟩:∃ad,x=.slice ad 0 0∧bx=[]:=by
      cases hx' with
      | ref _ l2 _ hl hd=>
        rw [k1] at hl;cases hl;cases hd with
        | real q=>grind
        | nil ad _ _=>simp
    refine ⟨ow,⟨h.dfr,h.sz,h.env,fun i bk2 e=> ?_,fun i hi=>h.dom i (by grind),h.owl,h.own,h.frm,h.mu⟩,fun _ q=>q⟩
    by_cases hij:i=j
    · subst hij
      rw [qlj (by grind)] at e;simp only [Option.some.injEq] at e;subst e;trivial
    · rw [qlq (fun q=>hij q.symm)] at e
      by_cases hii:i=id
      · subst hii
        rw [qlj hid] at e;simp only [Option.some.injEq] at e;subst e;refine hbk.ok' ⟨l,hl1,by omega,.inr ⟨q1,q2,bl,⟨by omega,c2,hsz _ c3,c,t,vs,c4,c5,?_,c7,c8⟩,q4,fun _ q=> ?_⟩⟩
        · rw [hc',ev1,eb1]
          exact r1.append (RepL.cons _ _ _ _ _ _ (.nsl ad) r3)
        grind
      · rw [qlq (fun q=>hii q.symm)] at e
        exact h.blk i bk2 e
theorem weak_inN {m:Nat} {s:St} (id j:Nat) (bk bk':Blk) (xs xs' pre post:List V) (kd:Kd) (hO:s.O[id]? =some bk) (hj:s.O[j]? =some (.arr [] kd)) (hne:id≠j) (hbk:SameShape bk bk' xs xs' .part .part) (hkd:kd≠.thin)
    (hc:xs.flatMap V.cells=pre++.ref j::post) (hc':xs'.flatMap V.cells=pre++.nsl::post) (hlen:xs'.length=xs.length)
    (hsz:∀n,(∀x∈xs,x.cells.length=n)→∀x∈xs',x.cells.length=n) :
    Weak m s {s with O:=(s.O.set id bk').set j .dead}:=
  (weakS_inN id j bk bk' xs xs' pre post kd hO hj hne hbk hkd hc hc' hlen hsz).weak
theorem weakS_kind {s:St} (id:Nat) (bk bk':Blk) (xs:List V) (k k':Kd) (hO:s.O[id]? =some bk) (hbk:SameShape bk bk' xs xs k k')
    (hk:∀(cx:Cx) (w:World) (μ:Nat→Option Loc) (ow:Ow) (bl:List Nat) (vs:List Value),RepL w (k.mu μ) (xs.flatMap V.cells) vs bl→KdOK cx ow s.vw id bl k→RepL w (k'.mu μ) (xs.flatMap V.cells) vs bl∧KdOK cx ow s.vw id bl k') (ht:k≠.thin∨k'=.thin) :
    WeakS s {s with O:=s.O.set id bk'}:=by
  intro cx a w μ ow h;have hid:id < s.O.length:=(qlc.1 hO).1;obtain ⟨l,hl1,hl2,hl3⟩:=hbk.ok (h.blk id _ hO);refine ⟨ow,⟨h.dfr,h.sz,h.env,fun i bk2 e=> ?_,fun i hi=>h.dom i (by grind),h.owl,h.own,h.frm,h.mu⟩,fun _ q=>q⟩
  by_cases hii:i=id
  · subst hii
    rw [qlj hid] at e;simp only [Option.some.injEq] at e;subst e;refine hbk.ok' ⟨l,hl1,hl2,?_⟩;rcases hl3 with q | ⟨q1,q2,bl,⟨c1,c2,c3,c,t,vs,c4,c5,c6,c7,c8⟩,q4,q5⟩
    · grind
    · obtain ⟨g1,g2⟩:=hk cx w μ ow bl vs c6 q4
      exact .inr ⟨q1,q2,bl,⟨c1,c2,c3,c,t,vs,c4,c5,g1,c7,c8⟩,g2,fun hne=>q5 (by grind)⟩
  · rw [qlq (fun q=>hii q.symm)] at e
    exact h.blk i bk2 e
theorem weak_kind {m:Nat} {s:St} (id:Nat) (bk bk':Blk) (xs:List V) (k k':Kd) (hO:s.O[id]? =some bk) (hbk:SameShape bk bk' xs xs k k')
    (hk:∀(cx:Cx) (w:World) (μ:Nat→Option Loc) (ow:Ow) (bl:List Nat) (vs:List Value),RepL w (k.mu μ) (xs.flatMap V.cells) vs bl→KdOK cx ow s.vw id bl k→RepL w (k'.mu μ) (xs.flatMap V.cells) vs bl∧KdOK cx ow s.vw id bl k') (ht:k≠.thin∨k'=.thin) :
    Weak m s {s with O:=s.O.set id bk'}:=
  (weakS_kind id bk bk' xs k k' hO hbk hk ht).weak
theorem weak_dp {m:Nat} {s:St} (id:Nat) (bk bk':Blk) (xs:List V) (hO:s.O[id]? =some bk) (hbk:SameShape bk bk' xs xs .part .deep) (hn:xs.all V.noRef=true):Weak m s {s with O:=s.O.set id bk'}:=
  weak_kind id bk bk' xs .part .deep hO hbk (fun cx w μ ow bl vs h1 h2=>⟨noRef_all h1 hn,h2⟩) (.inl (by simp))
theorem weak_mp {m:Nat} {s:St} (id:Nat) (bk bk':Blk) (xs:List V) (hO:s.O[id]? =some bk) (hbk:SameShape bk bk' xs xs .mix .part) (hn:xs.all V.noSl=true):Weak m s {s with O:=s.O.set id bk'}:=
  weak_kind id bk bk' xs .mix .part hO hbk (fun cx w μ ow bl vs h1 h2=>⟨h1,by
    have:bl=[]:=noSl_all h1 hn;subst this;exact ⟨by simp,by simp⟩⟩) (.inl (by simp))
theorem weak_pm {m:Nat} {s:St} (id:Nat) (bk bk':Blk) (xs:List V) (hO:s.O[id]? =some bk) (hbk:SameShape bk bk' xs xs .part .mix) (hn:xs.all V.noSl=true):Weak m s {s with O:=s.O.set id bk'}:=
  weak_kind id bk bk' xs .part .mix hO hbk (fun cx w μ ow bl vs h1 h2=>⟨h1,by
    have:bl=[]:=noSl_all h1 hn;subst this;exact fun b hb=>nomatch hb⟩) (.inl (by simp))
theorem weak_fd {m:Nat} {s:St} (id:Nat) (xs:List V) (hO:s.O[id]? =some (.arr xs .flat)):Weak m s {s with O:=s.O.set id (.arr xs .deep)}:=
  weak_kind id _ _ xs .flat .deep hO (.inl ⟨rfl,rfl⟩) (fun cx w μ ow bl vs h1 h2=>⟨h1,by
    have:bl=[]:=h2;subst this;exact ⟨by simp,by simp⟩⟩) (.inl (by simp))
def Wk (c c':V):Prop:=c'=c∨(c=.nsl∧c'=.sl [])∨c'=.any
def WkL:List V→List V→Prop
  | [],[]=>True
  | c::cs,c'::cs'=>Wk c c'∧WkL cs cs'
  | _,_=>False
theorem WkL.refl:∀l:List V,WkL l l
  | []=>trivial
  | _::l=>⟨.inl rfl,WkL.refl l⟩
theorem WkL.append:∀{a a' b b':List V},WkL a a'→WkL b b'→WkL (a++b) (a'++b')
  | [],[],_,_,_,h=>h
  | _::_,_::_,_,_,h,k=>⟨h.1,WkL.append h.2 k⟩
  | [],_::_,_,_,h,_=>nomatch h
  | _::_,[],_,_,h,_=>nomatch h
theorem RepL.wk {w:World} {ν:Nat→Option Loc}:∀{cs cs':List V} {vs:List Value} {bl:List Nat},WkL cs cs'→RepL w ν cs vs bl→∃bl',RepL w ν cs' vs bl'∧List.Sublist bl' bl
  | [],[],_,_,_,h=>⟨_,h,List.Sublist.refl _⟩
  | [],_::_,_,_,h,_=>nomatch h
  | _::_,[],_,_,h,_=>nomatch h
  | c ::cs,c'::cs',_,_,⟨h1,h2⟩,.cons _ x bx _ xs bl' hx ht=>by
    obtain ⟨b2,g1,g2⟩:=RepL.wk h2 ht;rcases h1 with e | ⟨e1,e2⟩ | e
    · subst e;exact ⟨bx++b2,.cons _ _ _ _ _ _ hx g1,(List.Sublist.refl _).append g2⟩
    · subst e1;subst e2
      cases hx with
      | nsl ad=>exact ⟨[]++b2,.cons _ _ _ _ _ _ (.sl0 ad 0) g1,by grind⟩
    · subst e
      exact ⟨[]++b2,.cons _ _ _ _ _ _ (.any x) g1,(List.nil_sublist bx).append g2⟩
theorem weakS_cells {s:St} (id:Nat) (bk bk':Blk) (xs xs':List V) (k:Kd) (hO:s.O[id]? =some bk) (hbk:SameShape bk bk' xs xs' k k) (hw:WkL (xs.flatMap V.cells) (xs'.flatMap V.cells)) (hlen:xs'.length=xs.length)
    (hsz:∀n,(∀x∈xs,x.cells.length=n)→∀x∈xs',x.cells.length=n):WeakS s {s with O:=s.O.set id bk'}:=by
  intro cx a w μ ow h;have hid:id < s.O.length:=(qlc.1 hO).1;obtain ⟨l,hl1,hl2,hl3⟩:=hbk.ok (h.blk id _ hO);refine ⟨ow,⟨h.dfr,h.sz,h.env,fun i bk2 e=> ?_,fun i hi=>h.dom i (by grind),h.owl,h.own,h.frm,h.mu⟩,fun _ q=>q⟩
  by_cases hii:i=id
  · subst hii
    rw [qlj hid] at e;simp only [Option.some.injEq] at e;subst e;refine hbk.ok' ⟨l,hl1,by omega,?_⟩;rcases hl3 with ⟨q1,q2⟩ | ⟨q1,q2,bl,⟨c1,c2,c3,c,t,vs,c4,c5,c6,c7,c8⟩,q4,q5⟩
    · grind
    · obtain ⟨bl',g1,g2⟩:=RepL.wk hw c6
      exact .inr ⟨q1,q2,bl',⟨c1,c2,hsz _ c3,c,t,vs,c4,c5,g1,c7,c8⟩,q4.sub g2,fun hne e=>q5 hne (by grind)⟩
  · rw [qlq (fun q=>hii q.symm)] at e
    exact h.blk i bk2 e
theorem weak_cells {m:Nat} {s:St} (id:Nat) (bk bk':Blk) (xs xs':List V) (k:Kd) (hO:s.O[id]? =some bk) (hbk:SameShape bk bk' xs xs' k k) (hw:WkL (xs.flatMap V.cells) (xs'.flatMap V.cells)) (hlen:xs'.length=xs.length)
    (hsz:∀n,(∀x∈xs,x.cells.length=n)→∀x∈xs',x.cells.length=n):Weak m s {s with O:=s.O.set id bk'}:=
  (weakS_cells id bk bk' xs xs' k hO hbk hw hlen hsz).weak
theorem wk_content:∀xs:List V,WkL (xs.flatMap V.cells) ((xs.map content).flatMap V.cells)
  | []=>trivial
  | x ::xs=>by
    rw [List.map_cons,qlz,qlz];refine WkL.append ?_ (wk_content xs);have hl:∀cs:List V,WkL cs (contentL cs):=by
      intro cs
      induction cs with
      | nil=>exact trivial
      | cons c cs ih=>
        refine ⟨?_,ih⟩;cases c<;>first | exact .inl rfl | exact .inr (.inl ⟨rfl,rfl⟩)
    cases x with
    | agg cs=>exact hl cs
    | nsl=>exact ⟨.inr (.inl ⟨rfl,rfl⟩),trivial⟩
    | _=>exact WkL.refl _
theorem content_cells (x:V):(content x).cells.length=x.cells.length:=by
  cases x with
  | agg cs=>simp [content,V.cells,contentL]
  | _=>rfl
theorem weak_content {m:Nat} {s:St} (id:Nat) (xs:List V) (k:Kd) (hO:s.O[id]? =some (.arr xs k)):Weak m s {s with O:=s.O.set id (.arr (xs.map content) k)}:=
  weak_cells id _ _ xs (xs.map content) k hO (.inl ⟨rfl,rfl⟩) (wk_content xs) (ql7 _) fun n hn y hy=>by
    obtain ⟨x,hx,rfl⟩:=qma.1 hy
    grind[content_cells]
theorem v_opT {P:Program} {L:Lend} {s:St} {rg:Array Oper} {K:St→Prop} {o:Oper} {rest:List Oper} (j:Nat) (want:Bool) (hg:o.guard=some (j,want)) (hv:guardV s rg j want=some true) (hd:dstOK o.dst s.n)
    (h:∀K':St→Prop,(∀s,aOps P L rg K rest s→K' s)→aExec P L s o fun v s'=>K' (s'.set o.dst (.opt true v))):aOps P L rg K (o::rest) s:=
  .inr (.inl ⟨hd,j,want,true,hg,hv,fun _=>h _ (fun _ q=>q),fun e=>nomatch e⟩)
end Go.Vm
namespace Go.Vm
open Go
theorem weak_retireD {m:Nat} {s:St} (id n t:Nat) (xs:List V) (hm:m≤s.O.length) (hO:s.O[id]? =some (.arr xs .deep)) (hn0:0 < n) (ht:s.get t=.sub id 0 n) (hv:s.vw=false) :
    Weak m s {s with env:=atSlot t (.ref s.O.length) s.env,O:=s.O.set id .dead++[.arr (xs.take n) .deep]}:=by
  intro cx a w μ ow hmu h;have hid:id < s.O.length:=(qlc.1 hO).1;obtain ⟨l,hl1,hl2,hl3⟩:=h.blk id _ hO;obtain ⟨bt,hrep,hbt⟩:=h.env t;rw [ht] at hrep;let N:=s.O.length;have key:∃(loc:Loc) (bl:List Nat),Hd loc (a.tmps.getD t undef)∧loc.n=(xs.take n).length∧loc.real=true∧loc.b=l.b∧ow l.b=some (true,id)∧Cells w M0 loc (xs.take n) bl∧bl.Nodup∧(∀b∈bl,ow b=some (false,id))∧xs.take n≠[]:=by
    generalize a.tmps.getD t undef=x at hrep;cases hrep with
    | sub0 _ _ l' ad hl hn=>omega
    | sub _ _ _ l' hl hr hn=>
      rw [hl1] at hl;cases hl;rcases hl3 with ⟨q1,_⟩ | ⟨q1,q2,bl,q3,q4,q5⟩
      · grind
      · obtain ⟨q41,q42⟩:=q4
        obtain ⟨c1,c2,c3,c,tt,vs,c4,c5,c6,c7,c8⟩:=q3;have hfl:(xs.take n).flatMap V.cells=(xs.flatMap V.cells).take (n * l.sz):=flatMap_take xs l.sz c3 n;have e:=List.take_append_drop (n * l.sz) (xs.flatMap V.cells);rw [←e] at c6;obtain ⟨x1,x2,b1,b2,e1,e2,r1,r2⟩:=RepL.split _ _ c6;have hx1:x1.length=((xs.flatMap V.cells).take (n * l.sz)).length:=r1.length.symm;have hvl:=c6.length;have htk:vs.take (n * l.sz)=x1:=by
          rw [qls] at hx1;have hle:x1.length≤n * l.sz:=by omega
          rcases qly x1.length (n * l.sz) with q | q
          · grind[List.length_drop,List.length_eq_zero_iff,List.take_of_length_le]
          grind
        have hbb:∀b∈b1,b∈bl:=fun b hb=>by grind
        refine ⟨⟨l.b,l.off,l.sz,n,l.cap,true⟩,b1,?_,?_,rfl,rfl,q2,⟨?_,c2,fun y hy=>c3 y (ql3 hy),c,tt,vs.take (n * l.sz),c4,c5,?_,fun y hy=>c7 y (ql3 hy),fun j y hj=> ?_⟩,?_,fun b hb=>q42 b (hbb b hb),?_⟩
        · have:=Hd.real (l:=⟨l.b,l.off,l.sz,n,l.cap,true⟩) rfl
          grind
        · grind
        · grind
        · rw [hfl,htk];exact r1
        · grind
        · grind
        grind
  obtain ⟨loc,bl1,z1,z2,z3,z4,z5,z6,z7,z8,z9⟩:=key;let ow':Ow:=fun y=>if y=loc.b then some (true,N) else if ow y=some (false,id) then some (false,N) else ow y
  let μ':Nat→Option Loc:=fun j=>if j=N then some loc else μ j
  have hmm:MLe μ μ':=by
    intro j lc e;have:j≠N:=fun q=>by rw [q,h.dom N (qlu _)] at e;cases e
    grind
  have hsame:∀y,ow y≠some (true,id)→ow y≠some (false,id)→ow' y=ow y:=by
    grind
  have hne:∀y,ow' y≠none→ow y≠none:=by
    grind
  have hnone:∀y,VOK cx ow s.vw y→ow y=none:=by
    intro y hy;rcases hy.1 with e | ⟨e,_⟩
    · exact e
    grind
  have hvok:∀y,VOK cx ow s.vw y→VOK cx ow' s.vw y:=fun y hy=>by
    have e:=hnone y hy;exact hy.mono (hsame y (by grind) (by grind)) (fun q=>q)
  have htt:look t s.env≠.any:=by
    intro e;have h2:look t s.env=.sub id 0 n:=ht
    grind
  have hslot:∀j,look j (atSlot t (.ref N) s.env)=if j=t then .ref N else look j s.env:=fun j=>look_atSlot t _ s.env j (.inl htt)
  refine ⟨μ',ow',h.dfr,h.sz,fun j=> ?_,fun j bk2 e=> ?_,fun j hj=> ?_,fun y hy=>h.owl y (hne y hy),fun y hy=>h.own y (hne y hy),h.frm,h.mu.trans hmm⟩
  · show ∃bl,Rep w μ' (look j (atSlot t (.ref N) s.env)) _ bl∧_
    rw [hslot]
    by_cases hjt:j=t
    · subst hjt
      rw [if_pos rfl];exact ⟨[],.ref N loc _ (by grind) z1,by simp⟩
    · rw [if_neg hjt]
      obtain ⟨b,g1,g2⟩:=h.env j;exact ⟨b,g1.keep hmm fun _ _=>rfl,fun y hy=>hvok y (g2 y hy)⟩
  · rcases qly j N with hj | hj
    · rw [qlv (by grind)] at e
      by_cases hji:j=id
      · subst hji
        rw [qlj hid] at e;simp only [Option.some.injEq] at e;subst e;trivial
      · rw [qlq (fun q=>hji q.symm)] at e
        refine (h.blk j bk2 e).keep hmm (fun q=>q) fun y hyl hcc=>⟨rfl,?_⟩
        grind
    · rw [qlr (by grind),qln] at e
      have hjN:j=N:=by
        grind
      subst hjN;rw [Nat.sub_self,List.getElem?_cons_zero,Option.some.injEq] at e;subst e;refine ⟨loc,by grind,z2,.inr ⟨z3,by grind,bl1,z6,⟨z7,fun b hb=> ?_⟩,fun _=>z9⟩⟩
      grind
  · have hj':N+1≤j:=by grind
    have h1:j≠N:=by omega
    simp only [μ',h1,if_false];exact h.dom j (by omega)
theorem weak_df {m:Nat} {s:St} (id:Nat) (xs:List V) (hO:s.O[id]? =some (.arr xs .deep)) (hn:xs.all V.noSl=true):Weak m s {s with O:=s.O.set id (.arr xs .flat)}:=
  weak_kind id _ _ xs .deep .flat hO (.inl ⟨rfl,rfl⟩) (fun cx w μ ow bl vs h1 h2=>⟨h1,noSl_all h1 hn⟩) (.inl (by simp))
end Go.Vm
namespace Go.Vm
open Go
def slN:List V→V
  | []=>.nsl
  | x::l=>.sl (x::l)
end Go.Vm
namespace Go.Vm
open Go
section
variable {α:Type} {f:α→V}
end
end Go.Vm
namespace Go.Vm
open Go
section
variable {τ α:Type} {pre:τ→List V} {sl:τ→List α} {f:α→V} {n:Nat}
end
end Go.Vm
namespace Go.Vm
open Go
def zE:=(And.intro (@get_mk) (And.intro (@look_cons) (And.intro (@look_nil) (And.intro (@set_none) (And.intro (@ev_tmp) (And.intro (@ev_const) (And.intro (@ev_func) (And.intro (@dst_some) (And.intro (@dst_none) (And.intro (@ql6.{0}) (And.intro (@List.nil_append.{0}) (And.intro (@List.cons_append.{0}) (And.intro (@true_and) (And.intro (@and_true) (And.intro (@and_self) (And.intro (@imp_self) (And.intro (@Bool.false_eq_true) (And.intro (@false_implies) (And.intro (@cond_true.{1}) (And.intro (@cond_false.{1}) (And.intro (@decide_eq_true_eq) (And.intro (@eq_self_iff_true.{1}) (And.intro (@exists_eq_left'.{1}) (And.intro (@Option.some.injEq.{0}) (And.intro (@not_false_eq_true) (And.intro (@not_true_eq_false) (@ne_eq.{1})))))))))))))))))))))))))))
def zS:=(And.intro (@settle_int) (And.intro (@settle_bool) (And.intro (@settle_str) (And.intro (@settle_nsl) (And.intro (@settle_sl) (And.intro (@settle_ref) (And.intro (@settle_sub) (And.intro (@settle_ptr) (And.intro (@settle_pv) (And.intro (@settle_tup) (And.intro (@settle_fn) (And.intro (@settle_npt) (And.intro (@settle_agg) (And.intro (@settleL_nil) (And.intro (@settleL_nsl) (And.intro (@settleL_int) (And.intro (@settleL_bool) (And.intro (@settleL_str) (And.intro (@settleL_sl) (And.intro (@settleL_ref) (And.intro (@List.length_nil.{0}) (And.intro (@qmf.{0}) (And.intro (@qlm.{0}) (And.intro (@Nat.zero_add) (And.intro (@Nat.add_zero) (@List.cons_append.{0}))))))))))))))))))))))))))
def zN:=(And.intro (@Nat.zero_lt_one) (And.intro (@Nat.lt_add_one) (And.intro (@Nat.zero_add) (And.intro (@Nat.add_zero) (And.intro (@qlu) (@Nat.zero_lt_succ))))))
def zL:=(And.intro (@List.getElem?_toArray.{0}) (And.intro (@List.getElem?_cons_succ.{0}) (And.intro (@List.getElem?_cons_zero.{0}) (And.intro (@List.getD_cons_zero.{0}) (And.intro (@List.getD_cons_succ.{0}) (And.intro (@qmf.{0}) (And.intro (@List.length_nil.{0}) (And.intro (@List.drop_zero.{0}) (And.intro (@List.drop_succ_cons.{0}) (And.intro (@List.headD_cons.{0}) (And.intro (@List.take_succ_cons.{0}) (And.intro (@List.take_zero.{0}) (And.intro (@List.take_nil.{0}) (And.intro (@List.drop_nil.{0}) (And.intro (@List.map_cons.{0,0}) (And.intro (@List.map_nil.{0,0}) (And.intro (@Option.bind_some.{0,0}) (And.intro (@Option.isSome_some.{0}) (@Option.map_some.{0,0})))))))))))))))))))
def zO:=(And.intro (@Bool.or_false) (And.intro (@Bool.false_or) (And.intro (@Bool.or_true) (And.intro (@Bool.true_or) (And.intro (@Bool.not_true) (And.intro (@Bool.not_false) (And.intro (@Bool.and_false) (And.intro (@Bool.and_true) (And.intro (@Bool.false_and) (And.intro (@Bool.true_and) (And.intro (@decide_true) (And.intro (@decide_false) (And.intro (@Bool.or_self) (@Bool.and_self))))))))))))))
def zJ:=(And.intro (@join_ff) (And.intro (@join_ft) (And.intro (@join_fv) (And.intro (@join_d) (And.intro (@join_s) (And.intro (@join_p) (And.intro (@fillK_join0) (And.intro (@List.isEmpty_nil.{0}) (And.intro (@List.isEmpty_cons.{0}) (And.intro (@fillK_join) (And.intro (@List.not_mem_nil.{0}) (And.intro (@List.nodup_nil.{0}) (And.intro (@qli.{0}) (And.intro (@List.nodup_cons.{0}) (And.intro (@beq_self_eq_true.{0}) (And.intro (@Bool.cond_true.{1}) (And.intro (@Bool.cond_false.{1}) (And.intro (@List.all_cons.{0}) (And.intro (@List.all_nil.{0}) (And.intro (@List.set_cons_zero.{0}) (@List.set_cons_succ.{0})))))))))))))))))))))
def zP:=(And.intro (@Bool.cond_true_right) (And.intro (@Bool.cond_true_left) (And.intro (@Bool.cond_false_right) (@Bool.cond_false_left))))
def zG:=(And.intro (@List.getElem?_toArray.{0}) (And.intro (@List.getElem?_cons_succ.{0}) (And.intro (@List.getElem?_cons_zero.{0}) (@Option.bind_some.{0,0}))))
def zV:=(And.intro (@get_mk) (And.intro (@look_cons) (And.intro (@cond_true.{1}) (And.intro (@cond_false.{1}) (And.intro (@Bool.and_false) (And.intro (@Bool.false_and) (And.intro (@Bool.not_true) (And.intro (@Bool.not_false) (And.intro (@List.getElem?_toArray.{0}) (And.intro (@List.getElem?_cons_succ.{0}) (And.intro (@List.getElem?_cons_zero.{0}) (@Option.bind_some.{0,0}))))))))))))
def zC:=(And.intro (@decide_eq_true_eq) (And.intro (@decide_eq_false_iff_not) (And.intro (@qlo) (And.intro (@Bool.or_eq_true) (And.intro (@Bool.not_eq_true') (And.intro (@Bool.not_eq_false') (And.intro (@Bool.and_eq_false_imp) (And.intro (@Bool.or_eq_false_iff) (And.intro (@Int.not_lt) (And.intro (@Int.not_le) (And.intro (@Bool.true_eq_false) (And.intro (@Bool.false_eq_true) (And.intro (@imp_false) (@Classical.not_imp))))))))))))))
def zM:=(And.intro (@List.map_cons.{0,0}) (And.intro (@List.map_nil.{0,0}) (And.intro (@ql6.{0}) (And.intro (@List.flatMap_nil.{0,0}) (And.intro (@ql0.{0}) (And.intro (@List.not_mem_nil.{0}) (And.intro (@or_false) (And.intro (@forall_eq_or_imp.{1}) (And.intro (@forall_eq.{1}) (@false_implies))))))))))
def zW:=(And.intro (@get_mk) (And.intro (@look_cons) (And.intro (@look_nil) (And.intro (@set_none) (And.intro (@ev_tmp) (And.intro (@ev_const) (@ev_func)))))))
def zY:=(And.intro (@ql6.{0}) (And.intro (@List.cons_append.{0}) (And.intro (@List.nil_append.{0}) (And.intro (@List.length_nil.{0}) (And.intro (@qmf.{0}) (And.intro (@Nat.zero_add) (And.intro (@Nat.not_lt_zero) (And.intro (@if_false.{1}) (@Nat.sub_zero)))))))))
theorem rng0:List.range 0=[]:=rfl
theorem rng1:List.range 1=[0]:=rfl
theorem rng2:List.range 2=[0,1]:=rfl
theorem rng3:List.range 3=[0,1,2]:=rfl
theorem rng4:List.range 4=[0,1,2,3]:=rfl
theorem rng5:List.range 5=[0,1,2,3,4]:=rfl
theorem rng6:List.range 6=[0,1,2,3,4,5]:=rfl
theorem rng7:List.range 7=[0,1,2,3,4,5,6]:=rfl
theorem rng8:List.range 8=[0,1,2,3,4,5,6,7]:=rfl
theorem rng9:List.range 9=[0,1,2,3,4,5,6,7,8]:=rfl
theorem rng10:List.range 10=[0,1,2,3,4,5,6,7,8,9]:=rfl
theorem rng11:List.range 11=[0,1,2,3,4,5,6,7,8,9,10]:=rfl
theorem rng12:List.range 12=[0,1,2,3,4,5,6,7,8,9,10,11]:=rfl
theorem flat_mix:Kd.flat.nm=true:=rfl
theorem deep_mix:Kd.deep.nm=true:=rfl
end Go.Vm
namespace Go.Vm
open Go
def Kd.isMix:Kd→Bool
  | .mix | .part=>true
  | _=>false
theorem isMix_flat:Kd.flat.isMix=false:=rfl
theorem isMix_deep:Kd.deep.isMix=false:=rfl
theorem isMix_shal:Kd.shal.isMix=false:=rfl
theorem isMix_thin:Kd.thin.isMix=false:=rfl
theorem isMix_mix:Kd.mix.isMix=true:=rfl
theorem isMix_part:Kd.part.isMix=true:=rfl
theorem isMix_fillK (i:Nat):(fillK i).isMix=false:=by unfold fillK;split<;>rfl
theorem isMix_thK (i:Nat):(thK i).isMix=false:=by unfold thK;split<;>rfl
def Blk.renM (ρ:Nat→Nat):Blk→Blk
  | .dead=>.dead
  | .hid j n=>.hid (ρ j) n
  | .arr xs k=>.arr (bif k.isMix then V.renL ρ xs else xs) k
  | .box x k=>.box (bif k.isMix then V.ren ρ x else x) k
def Blk.onlyM (p:Nat→Bool):Blk→Bool
  | .dead=>true
  | .hid _ _=>false
  | .arr xs k=> !k.isMix || V.onlyL p xs
  | .box x k=> !k.isMix || V.only p x
def St.compM (ids:List Nat) (s:St):St:={s with env:=s.env.map fun p=>(p.1,p.2.ren fun id=>(idx ids id).getD 0),O:=ids.map fun id=>(s.O.getD id .dead).renM fun id=>(idx ids id).getD 0}
theorem renL_map (ρ:Nat→Nat):∀l:List V,V.renL ρ l=l.map (V.ren ρ)
  | []=>by rfl
  | v::l=>by rw [V.renL,renL_map ρ l];rfl
theorem ren_cells (ρ:Nat→Nat) (v:V):(v.ren ρ).cells=v.cells.map (V.ren ρ):=by
  cases v<;>simp only [V.ren,V.cells,List.map_cons,List.map_nil]
  rw [renL_map]
theorem renL_flat (ρ:Nat→Nat) (l:List V):(V.renL ρ l).flatMap V.cells=V.renL ρ (l.flatMap V.cells):=by
  induction l with
  | nil=>rfl
  | cons v l ih=>grind[V.renL,ren_cells,renL_map]
theorem weak_compM {m:Nat} {s:St} (ids:List Nat) (hn:ids.Nodup) (hm:∀j,j < m→ids[j]? =some j) (he:∀p∈s.env,p.2.only (fun id=>(idx ids id).isSome)=true)
    (hb:∀id∈ids,∀bk,s.O[id]? =some bk→bk.onlyM (fun id=>(idx ids id).isSome)=true):Weak m s (s.compM ids):=by
  intro cx a w μ ow hmu h;let ρ:Nat→Nat:=fun id=>(idx ids id).getD 0
  let μ':Nat→Option Loc:=fun j=>(ids[j]?).bind μ
  let ow':Ow:=fun b=>match ow b with
    | some (r,id)=>(idx ids id).map fun j=>(r,j)
    | none=>none
  have o0:∀b,ow b=none→ow' b=none:=fun b e=>by simp [ow',e]
  have o1:∀b id,ow b=some (false,id)→ow' b=none∨∃id',ow' b=some (false,id'):=fun b id e=>by
    cases q:idx ids id with
    | none=>exact .inl (by simp [ow',e,q])
    | some j=>exact .inr ⟨j,by simp [ow',e,q]⟩
  have oin:∀b r id j,ow b=some (r,id)→idx ids id=some j→ow' b=some (r,j):=fun b r id j e q=>by simp [ow',e,q]
  have one:∀b,ow' b≠none→ow b≠none:=fun b hb e=>hb (o0 b e)
  have hμ:∀id l,(idx ids id).isSome=true→μ id=some l→μ' (ρ id)=some l:=by
    intro id l hs e;obtain ⟨j,hj⟩:=qmb.1 hs;have:=idx_spec hj;simp [μ',ρ,hj,this,e]
  let μ2:Nat→Option Loc:=fun id=>if (idx ids id).isSome then μ id else none
  have h2:∀id l,μ2 id=some l→μ' (ρ id)=some l:=by
    intro id l e
    by_cases q:(idx ids id).isSome=true
    · exact hμ id l q (by simpa [μ2,q] using e)
    · simp [μ2,q] at e
  refine ⟨μ',ow',h.dfr,h.sz,fun t=> ?_,fun j bk e=> ?_,fun j hj=> ?_,fun b hb=>h.owl b (one b hb),fun b hb=>h.own b (one b hb),h.frm,fun id l e=> ?_⟩
  · obtain ⟨bl,r1,r2⟩:=h.env t
    show ∃bl,Rep w μ' (look t (s.env.map _)) _ bl∧_;rw [look_ren];have r1':Rep w μ2 (look t s.env) (a.tmps.getD t undef) bl:=Rep.only (p:=fun id=>(idx ids id).isSome) (fun id l hp e=>by simp only [μ2,hp,if_true];exact e) r1 (look_only he t);exact ⟨bl,Rep.ren (ρ:=ρ) h2 r1',fun b hb=>(r2 b hb).mono2 (o0 b) (o1 b)⟩
  · have e' : (ids[j]?).map (fun id=>(s.O.getD id .dead).renM ρ)=some bk:=by rw [←List.getElem?_map];exact e
    rw [Option.map_eq_some_iff] at e';obtain ⟨id,hid,hbk⟩:=e';have hix:idx ids id=some j:=idx_get hn hid;cases hO:s.O[id]? with
    | none=>
      rw [qld,hO] at hbk;simp only [Option.getD_none] at hbk;subst hbk;trivial
    | some bk' =>
      rw [qld,hO] at hbk;simp only [Option.getD_some] at hbk;have hblk:=h.blk id bk' hO;have hbm:=hb id (qlb hid) bk' hO;have key:∀xs k,(k.isMix=true→V.onlyL (fun id=>(idx ids id).isSome) xs=true)→RowOK cx w μ ow s.vw id xs k→RowOK cx w μ' ow' s.vw j (bif k.isMix then V.renL ρ xs else xs) k:=by
        intro xs k hk ⟨l,q1,q2,q3⟩;have q1':μ' j=some l:=by simp [μ',hid,q1]
        have hlen:(bif k.isMix then V.renL ρ xs else xs).length=xs.length:=by
          cases k.isMix
          · rfl
          · rw [cond_true,renL_map,ql7]
        refine ⟨l,q1',by rw [hlen];exact q2,?_⟩;rcases q3 with ⟨q3,q3'⟩ | ⟨q3,q4,bl2,q5,q6,q7⟩
        · refine .inl ⟨q3,?_⟩
          subst q3';cases k.isMix
          · rfl
          · rw [cond_true,V.renL]
        · refine .inr ⟨q3,oin _ _ _ _ q4 hix,bl2,?_,?_,fun hne e=>q7 hne (qlx.1 (by rw [←hlen,e];rfl))⟩
          · cases k with
            | flat | thin | deep | shal=>exact q5
            | mix | part=>
              obtain ⟨c1,c2,c3,c,t,vs,c4,c5,c6,c7,c8⟩:=q5;refine ⟨c1,c2,?_,c,t,vs,c4,c5,?_,c7,c8⟩
              · intro x hx
                have hx':x∈V.renL ρ xs:=hx;rw [renL_map] at hx';obtain ⟨y,hy,rfl⟩:=qma.1 hx';rw [ren_cells,ql7];exact c3 y hy
              · show RepL w μ' ((V.renL ρ xs).flatMap V.cells) vs bl2
                rw [renL_flat];have c6':RepL w μ (xs.flatMap V.cells) vs bl2:=c6;exact RepL.ren (ρ:=ρ) h2 (RepL.only (p:=fun id=>(idx ids id).isSome) (μ':=μ2) (fun id l hp e=>by simp only [μ2,hp,if_true];exact e) c6' (onlyL_flat (hk rfl)))
          · cases k with
            | flat | thin=>exact q6
            | deep | part=>exact ⟨q6.1,fun b hb=>oin _ _ _ _ (q6.2 b hb) hix⟩
            | shal | mix=>exact fun b hb=>(q6 b hb).mono2 (o0 b) (o1 b)
      subst hbk;cases bk' with
      | dead=>trivial
      | hid j' n'=>simp [Blk.onlyM] at hbm
      | arr xs k=>exact key xs k (fun q=>by simpa [Blk.onlyM,q] using hbm) hblk
      | box x k=>
        have:=key [x] k (fun q=>by simpa [Blk.onlyM,q,V.onlyL] using hbm) hblk;show RowOK cx w μ' ow' s.vw j [bif k.isMix then V.ren ρ x else x] k;cases hq:k.isMix with
        | false=>rw [hq] at this;exact this
        | true=>rw [hq,cond_true,V.renL,V.renL] at this;exact this
  · have:ids[j]? =none:=qlp (by simpa [St.compM] using hj)
    simp [μ',this]
  · have hlt:id < m:=by
      rcases qly id m with q | q
      · exact q
      · rw [hmu id q] at e;cases e
    have:=h.mu id l e;simp [μ',hm id hlt,this]
theorem weak_bothM {m:Nat} {s s':St} (ks ids:List Nat) (hn:ids.Nodup) (hm:∀j,j < m→ids[j]? =some j) (he:∀p∈(s.keep ks).env,p.2.only (fun id=>(idx ids id).isSome)=true)
    (hb:∀id∈ids,∀bk,s.O[id]? =some bk→bk.onlyM (fun id=>(idx ids id).isSome)=true) (e:(s.keep ks).compM ids=s'):Weak m s s':=
  e ▸ weak_trans (weak_keep ks s) (weak_compM ids hn hm he hb)
theorem RepL.len {w:World} {μ:Nat→Option Loc}:∀{xs:List V} {vs:List Value} {bl:List Nat},RepL w μ xs vs bl→vs.length=xs.length
  | _,_,_,.nil=>rfl
  | _,_,_,.cons v x bl vs xs bl' h ht=>by rw [qmf,qmf,RepL.len ht]
def newIds (m:Nat) (v:V):List Nat:=(refsOf v).filter fun id=>Nat.ble m id
theorem ret_all {m:Nat} {s:St} {v r:V} {O':List Blk} (h2:v.only (fun id=>Nat.blt id m || (idx (newIds m v) id).isSome)=true) (h3:(newIds m v).Nodup) (hm:m≤s.O.length)
    (h4:v.ren (outNo m (newIds m v))=r) (h5:s.O.take m++(newIds m v).map (fun id=>s.O.getD id .dead)=O') (h6:∀bk∈O',bk.kindIs (fun k=>k != .shal && k.nm)=true) (h7:v.clean=true):RetOK m s v r O':=by
  subst h4 h5;unfold RetOK;refine ⟨⟨h2,h3,hm⟩,rfl,rfl,fun bk hb=> ?_,.inr ⟨h7,h6⟩⟩;have:=h6 bk hb;cases bk with
  | dead=>simp [Blk.kindIs] at this⊢
  | hid j' n'=>simp [Blk.kindIs] at this
  | arr xs k=>cases k<;>simp_all [Blk.kindIs,Kd.nm]
  | box x k=>cases k<;>simp_all [Blk.kindIs,Kd.nm]
theorem ret_viewX {m:Nat} {s:St} {v:V} {R:V→List Blk→Prop} (hR:R (v.ren (outNo m (newIds m v))) (s.O.take m++(newIds m v).map (fun id=>s.O.getD id .dead))) (hw:s.vw=false:=by rfl)
    (h2:v.only (fun id=>Nat.blt id m || (idx (newIds m v) id).isSome)=true:=by rfl) (h3:(newIds m v).Nodup:=by first | decide | simp [newIds,refsOf,refs2,refs1]) (hm:m≤s.O.length:=by simp)
    (h6:∀bk∈s.O.take m++(newIds m v).map (fun id=>s.O.getD id .dead),bk.kindIs (fun k=>k.nm)=true:=by simp [newIds,refsOf,refs2,refs1,Blk.kindIs,fillK_mix]):∃r O',R r O'∧RetOK m s v r O':=
  ⟨_,_,hR,by
    unfold RetOK;exact ⟨⟨h2,h3,hm⟩,rfl,rfl,h6,.inl hw⟩⟩
theorem rho_s (id n j:Nat):rho [id] n (j+1)=n+j:=by rfl
theorem aCall_guard0 {P:Program} {s:St} {f:FuncId} {args args':List V} {r:V} {K:V→Prop} {G:Prop} (hc:G→Con P f args' [] r []) (ht:toArgs s [] args=some args')
    (hr:r.only (fun _=>false)=true) (hcl:r.clean=true) (hk:K r):∃r,(G→aCall P s f [] args fun v s'=>v=r∧s'={s with O:=s.O++[]})∧K r:=
  ⟨r,fun g=>aCall_new (hc g) ht (.inl ⟨hcl,by simp⟩) ⟨ren_only (by simp) hr,rfl⟩,hk⟩
theorem v_seq1 {P:Program} {L:Lend} {m:Nat} {Q:AEx→St→Prop} {s:St} {x y:Code} {S:St} (h1:∀Q':AEx→St→Prop,(∀s,Weak m s S→Q' .normal s)→(∀i s,Q (.exit i) s→Q' (.exit i) s)→(∀s,Q .ret s→Q' .ret s)→awp P L m x Q' s)
    (h2:awp P L m y Q S):awp P L m (.seq x y) Q s:=
  v_seq fun Q' hn he hr=>h1 Q' (fun s hw=>hn s S hw h2) he hr
theorem v_join {P:Program} {L:Lend} {m:Nat} {Q:AEx→St→Prop} {s:St} {x y:Code} {A:Type} (S:A→St) (ok:A→Prop)
    (h1:∀Q':AEx→St→Prop,(∀p s,ok p→Weak m s (S p)→Q' .normal s)→(∀i s,Q (.exit i) s→Q' (.exit i) s)→(∀s,Q .ret s→Q' .ret s)→awp P L m x Q' s)
    (h2:∀p,ok p→awp P L m y Q (S p)):awp P L m (.seq x y) Q s:=
  v_seq fun Q' hn he hr=>h1 Q' (fun p s hok hw=>hn s (S p) hw (h2 p hok)) he hr
theorem v_seqR {P:Program} {L:Lend} {m:Nat} {Q:AEx→St→Prop} {s:St} {id:Nat} {ops:Array Oper} {y:Code} (ks:List Nat)
    (h:∀K:St→Prop,(∀s,awp P L m y Q (s.keep ks)→K s)→aOps P L ops K ops.toList s):awp P L m (.seq (.region id ops false) y) Q s:=
  v_seq fun _ hn _ _=>v_region fun K k=>h K fun s q=>k s (hn s (s.keep ks) (weak_keep ks s) q)
theorem aCall_newX {P:Program} {s:St} {f:FuncId} {args args':List V} {R:V→List Blk→Prop} {K:V→St→Prop} (hc:ConX P f args' [] R) (ht:toArgs s [] args=some args')
    (h:∀r O',R r O'→((r.clean=true∧∀bk∈O',bk.kindIs (fun k=>k != .shal && k.nm)=true)∨(∀x∈args,x.coldIn []=true))∧K (r.ren (rho [] s.O.length)) {s with O:=s.O++O'}):aCall P s f [] args K:=
  .inr ⟨s.O,.inl rfl,args',[],R,ht,rfl,List.nodup_nil,by simp,.inr (by simp),hc,fun r O' hR=>⟨(h r O' hR).1,by unfold setBlks;exact (h r O' hR).2⟩⟩
theorem aCall_lentX {P:Program} {s:St} {f:FuncId} {args args':List V} {bk:Blk} {R:V→List Blk→Prop} {K:V→St→Prop} (id:Nat) (hc:ConX P f args' [bk] R) (ht:toArgs s [id] args=some args')
    (hO:s.O[id]? =some bk) (hbk:bk.kindIs (fun k=>k.nm)=true∧bk≠.dead) (hv:s.vw=false∨bk.kindIs (fun k=>k == .flat)=true)
    (h:∀r O',R r O'→∃bk' O1,O'=bk'::O1∧((r.clean=true∧∀b∈O',b.kindIs (fun k=>k != .shal && k.nm)=true)∨(∀x∈args,x.coldIn [id]=true))∧K (r.ren (rho [id] s.O.length)) {s with O:=s.O.set id bk'++O1}):aCall P s f [id] args K:=
  .inr ⟨s.O,.inl rfl,args',[bk],R,ht,by simp [hO],by simp,by simpa using hbk,hv.imp (fun h=>h) (fun h=>by simpa using h),hc,fun r O' hR=>by
    obtain ⟨bk',O1,e,h1,h2⟩:=h r O' hR;subst e;exact ⟨h1,by simpa [setBlks] using h2⟩⟩
theorem aCall_lent2X {P:Program} {s:St} {f:FuncId} {args args':List V} {bk bk2:Blk} {R:V→List Blk→Prop} {K:V→St→Prop} (i j:Nat) (hc:ConX P f args' [bk,bk2] R) (ht:toArgs s [i,j] args=some args')
    (hO:s.O[i]? =some bk) (hO2:s.O[j]? =some bk2) (hn:i≠j) (hbk:(bk.kindIs (fun k=>k.nm)=true∧bk≠.dead)∧(bk2.kindIs (fun k=>k.nm)=true∧bk2≠.dead)) (hv:s.vw=false)
    (h:∀r O',R r O'→∃b1 b2 O1,O'=b1::b2::O1∧((r.clean=true∧∀b∈O',b.kindIs (fun k=>k != .shal && k.nm)=true)∨(∀x∈args,x.coldIn [i,j]=true))∧K (r.ren (rho [i,j] s.O.length)) {s with O:=(s.O.set i b1).set j b2++O1}):aCall P s f [i,j] args K:=
  .inr ⟨s.O,.inl rfl,args',[bk,bk2],R,ht,by simp [hO,hO2],by simp [hn],by
    intro b hb;rcases ql0.1 hb with rfl | hb
    · exact hbk.1
    · rw [qli] at hb;subst hb;exact hbk.2,.inl hv,hc,fun r O' hR=>by
    obtain ⟨b1,b2,O1,e,h1,h2⟩:=h r O' hR;subst e;exact ⟨h1,by simpa [setBlks] using h2⟩⟩
theorem rho2_s (i j n m:Nat):rho [i,j] n (m+2)=n+m:=by
  rfl
theorem rho2_0 (i j n:Nat):rho [i,j] n 0=i:=rfl
theorem rho2_1 (i j n:Nat):rho [i,j] n 1=j:=rfl
theorem v_opG {P:Program} {L:Lend} {s:St} {rg:Array Oper} {K:St→Prop} {o:Oper} {rest:List Oper}
    (h:∀K':St→Prop,(∀s,aOps P L rg K rest s→K' s)→dstOK o.dst s.n∧∃j want G,o.guard=some (j,want)∧guardV s rg j want=some G∧(G=true→aExec P L s o fun v s'=>K' (s'.set o.dst (.opt true v)))∧(G=false→∃v,K' (s.set o.dst (.opt false v)))):aOps P L rg K (o::rest) s:=
  .inr (.inl (h _ fun _ h=>h))
theorem aStep_guardX {P:Program} {L:Lend} {s:St} {rg:Array Oper} {o:Oper} {K:St→Prop} (j:Nat) (want:Bool) {G:Bool} {f:FuncId} {args args':List V} {bk:Blk} {R:V→List Blk→Prop} {id:Nat} (hd:dstOK o.dst s.n) (hg:o.guard=some (j,want))
    (hv:guardV s rg j want=some G) (hc:G=true→ConX P f args' [bk] R) (he:G=true→∀F:V→St→Prop,aCall P s f [id] args F→aExec P L s o F) (hsame:∃r,R r [bk])
    (ht:toArgs s [id] args=some args') (hO:s.O[id]? =some bk) (hbk:bk.kindIs (fun k=>k.nm)=true∧bk≠.dead) (hw:s.vw=false∨bk.kindIs (fun k=>k == .flat)=true)
    (h:∀r O',R r O'→∃bk',O'=[bk']∧(r.clean=true∧r.only (fun _=>false)=true∧bk'.kindIs (fun k=>k.nm)=true∧(bk'.kindIs (fun k=>k != .shal && k.nm)=true∨∀x∈args,x.coldIn [id]=true))∧K (({s with O:=s.O.set id bk'}:St).set o.dst (.opt G r))) :
    dstOK o.dst s.n∧∃j want G,o.guard=some (j,want)∧guardV s rg j want=some G∧(G=true→aExec P L s o fun v s'=>K (s'.set o.dst (.opt true v)))∧(G=false→∃v,K (s.set o.dst (.opt false v))):=by
  refine ⟨hd,j,want,G,hg,hv,fun hG=> ?_,fun hG=> ?_⟩
  · subst hG
    refine he rfl _ (aCall_lentX id (hc rfl) ht hO hbk hw fun r O' hR=> ?_);obtain ⟨bk',rfl,⟨h1,h2,h3,h4⟩,h5⟩:=h r O' hR;refine ⟨bk',[],rfl,h4.imp (fun q=>⟨h1,by grind⟩) (fun q=>q),?_⟩;rw [ren_only (by simp) h2,ql6];omega
  · subst hG
    obtain ⟨r,hr⟩:=hsame;obtain ⟨bk',e,_,h5⟩:=h r _ hr;simp only [List.cons.injEq,and_true] at e;subst e;refine ⟨r,?_⟩;have:s.O.set id bk=s.O:=by
      apply List.ext_getElem?;intro i
      grind
    simp_all
end Go.Vm
namespace Go.Vm
open Go Go.RowKit
theorem tabsIn_app {w:World} {l1 l2:List (Nat×(Array Value→Prop))} (h1:TabsIn w l1) (h2:TabsIn w l2):TabsIn w (l1++l2):=fun p hp=>(qll.1 hp).elim (h1 p) (h2 p)
theorem tabsIn_none {P:Program} {n:String} {q:Array Value→Prop} {w:World} (h:P.globalNamed n=none):TabsIn w (tabAt P n q):=by
  intro p hp
  grind[tabAt]
theorem tabs_none {P:Program} (h:P.globalNamed "internal/strconv.uint64pow10" =none) (h1:P.globalNamed "strconv.ErrSyntax" =none) (h2:P.globalNamed "strconv.ErrRange" =none) {w:World}:TabsIn w (tabsOf P):=
  tabsIn_app (tabsIn_none h) (tabsIn_app (tabsIn_none h1) (tabsIn_none h2))
end Go.Vm
namespace Go.Vm
open Go
structure Tys (p:Prop):Prop where
  h:p
structure Fc (p:Prop):Prop where
  h:p
structure Ho (p:Prop):Prop where
  h:p
structure Sd (p:Prop):Prop where
  h:p
theorem setAll {xs:List V} {i n:Nat} {y:V} (h:∀x∈xs,x.cells.length=n) (hy:y.cells.length=n):∀x∈xs.set i y,x.cells.length=n:=by
  intro x hx;rcases List.mem_or_eq_of_mem_set hx with q | q
  · exact h x q
  · rw [q];exact hy
theorem gdm {α:Type} {l:List α} {i:Nat} {x:α} (h:l[i]? =some x):∀f:α→V,(l.map f).getD i .any=f x:=fun _=>getD_map h
theorem ai {a b:Prop} (h:a) (k:b):a∧b:=⟨h,k⟩
theorem andA {A B:Prop} (b:B) (a:A:=by first | omega | (intros;omega) | (exact fill_all (fun _=>rfl) rfl) | (exact setAll (fun x hx=>by obtain ⟨t,_,rfl⟩:=qma.1 hx;rfl) rfl) | (have q:=‹Sd _›;exact q.h _) | (intros;simp_all;done) | (intros;simp_all;omega)):A∧B:=⟨a,b⟩
theorem andC {A B:Prop} (b:B) (a:A:=by first | rfl | (intros;simp_all;done)):A∧B:=⟨a,b⟩
theorem rta {m:Nat} {s:St} {v r:V} {O':List Blk} (h2:v.only (fun id=>Nat.blt id m || (idx (newIds m v) id).isSome)=true:=by rfl) (h3:(newIds m v).Nodup:=by first | decide | simp [newIds,refsOf,refs2,refs1]) (hm:m≤s.O.length:=by simp)
    (h4:v.ren (outNo m (newIds m v))=r:=by rfl) (h5:s.O.take m++(newIds m v).map (fun id=>s.O.getD id .dead)=O':=by simp [newIds,refsOf,refs2,refs1]) (h6:∀bk∈O',bk.kindIs (fun k=>k != .shal && k.nm)=true:=by simp [Blk.kindIs,fillK_fd]) (h7:v.clean=true:=by rfl):RetOK m s v r O':=ret_all h2 h3 hm h4 h5 h6 h7
theorem v_passB {P:Program} {L:Lend} {s:St} {rg:Array Oper} {K:St→Prop} {o:Oper} {rest:List Oper} {d j:Nat} {want:Bool} (hd:o.dst=some d) (hn:Nat.blt d s.n=true) (hg:o.guard=some (j,want)) (hv:guardV s rg j want=some false) (h:aOps P L rg K rest (s.set (some d) (.opt false .any))):aOps P L rg K (o::rest) s:=
  v_pass d j want hd (by rwa [Nat.blt_eq] at hn) hg hv h
theorem zAlloc {A B:Prop} (b:Ho B) (e:Ho B→A:=by
  intro b;refine v_op ?_;intro K k;simp only [zE,zS,zO,zN,aStepM,optable,set_some,Nat.reduceEqDiff,reduceIte,Nat.reduceLT,implies_true,forall_const,reduceCtorEq,V.ofValue,V.ofScalar,V.un,V.gd,aExec,aop,Nat.reduceAdd,Value.oneCell',V.isVal,V.cells,kindOf,kindAll,V.noSl,V.noRef,List.all_cons,List.all_nil,List.map_cons,List.map_nil,gt_iff_lt,Nat.reduceLeDiff,Nat.reduceMul,contentL,‹Tys _›.h,‹Fc _›.h];repeat (refine andA ?_)
  refine k _ ?_;clear k K;exact b.h):A:=e b
theorem zAppend {A B:Prop} (b:Ho B) (e:Ho B→A:=by
  intro b;refine v_op ?_;intro K k;simp only [zE,zL,zO,zN,aStepM,optable,set_some,Nat.reduceEqDiff,reduceIte,Nat.reduceLT,implies_true,forall_const,reduceCtorEq,V.ofValue,V.ofScalar,V.un,V.gd,aExec,aop,fillK_thin,beq_self_eq_true,List.nodup_cons,List.mem_singleton,forall_eq',List.size_toArray,List.getD_eq_getElem?_getD,Array.getD_eq_getD_getElem?,Option.getD_some,aAppend,destOf,srcOf,takeElems,takeV,takeCell,takeCells,row_mk,Blk.row,killAll,V.isSub,V.noSl,Value.cells,Option.toList,List.forall_mem_map,List.length_map,List.all_cons,List.all_nil,List.isEmpty_nil,List.isEmpty_cons,List.not_mem_nil,List.nodup_nil,join_ff,join_ft,join_fv,join_d,join_s,fillK_join0,fillK_join,List.mem_cons,or_false,forall_eq_or_imp,forall_eq,List.set_cons_zero,List.set_cons_succ,List.length_append,Go.Vm.V.cells,Nat.reduceAdd,Nat.reduceLeDiff,Nat.reduceMul,contentL,Value.oneCell',‹Tys _›.h,‹Fc _›.h];repeat (refine andA ?_)
  refine k _ ?_;clear k K;exact b.h):A:=e b
theorem zAssign {A B:Prop} (b:Ho B) (e:Ho B→A:=by
  intro b;refine v_op ?_;intro K k;simp only [zE,zS,aStepM,optable,set_some,Nat.reduceEqDiff,reduceIte,Nat.reduceLT,implies_true,forall_const,reduceCtorEq,V.ofValue,V.ofScalar,V.un,V.gd,aExec,aop,Nat.reduceAdd,contentL,Value.oneCell',List.all_cons,List.all_nil,Bool.and_self,‹Tys _›.h,‹Fc _›.h];repeat (refine andA ?_)
  refine k _ ?_;clear k K;exact b.h):A:=e b
theorem zBinOp {A B:Prop} (b:Ho B) (e:Ho B→A:=by
  intro b;refine v_op ?_;intro K k;simp only [zE,aStepM,optable,set_some,Nat.reduceEqDiff,reduceIte,Nat.reduceLT,implies_true,forall_const,reduceCtorEq,V.ofValue,V.ofScalar,V.un,V.gd,aExec,aop,aBin,isNil,or_true,true_or,or_false,false_or,EK.fitsL,EK.fits,cellsEq,cellEq,contentL,Value.oneCell',List.all_cons,List.all_nil,Bool.and_self,‹Tys _›.h,‹Fc _›.h];repeat (refine andA ?_)
  refine k _ ?_;clear k K;exact b.h):A:=e b
theorem zBinOpW {A B:Prop} (b:Ho B) (e:Ho B→A:=by
  intro b;refine v_op ?_;intro K k;simp only [zE,aStepM,optable,set_some,Nat.reduceEqDiff,reduceIte,Nat.reduceLT,implies_true,forall_const,reduceCtorEq,V.ofValue,V.ofScalar,V.un,V.gd,aExec,aop,aBin,isNil,or_true,true_or,or_false,false_or,EK.fitsL,EK.fits,cellsEq,cellEq,contentL,Value.oneCell',List.all_cons,List.all_nil,Bool.and_self,‹Tys _›.h,‹Fc _›.h];try simp (disch:=omega) only [wrap64]
  repeat (refine andA ?_)
  refine k _ ?_;clear k K;exact b.h):A:=e b
theorem zgBinOp {A B:Prop} (b:Ho B) (e:Ho B→A:=by
  intro b;first
  | refine v_passB rfl rfl rfl ?_ ?_
    · first | rfl | (simp only [zV,guardV,Nat.reduceEqDiff,reduceIte];done)
    simp only [zW,set_some,Nat.reduceEqDiff,reduceIte]
  | skip
    refine v_op ?_;intro K k;simp only [zE,zG,aStepM,optable,set_some,Nat.reduceEqDiff,reduceIte,Nat.reduceLT,implies_true,forall_const,reduceCtorEq,V.ofValue,V.ofScalar,V.un,V.gd,guardV,V.wrap,aExec,aop,aBin,isNil,or_true,true_or,or_false,false_or,EK.fitsL,EK.fits,cellsEq,cellEq,contentL,Value.oneCell',List.all_cons,List.all_nil,Bool.and_self,‹Tys _›.h,‹Fc _›.h];repeat (refine andA ?_)
    refine k _ ?_;clear k K
  exact b.h):A:=e b
theorem zgBinOpW {A B:Prop} (b:Ho B) (e:Ho B→A:=by
  intro b;first
  | refine v_passB rfl rfl rfl ?_ ?_
    · first | rfl | (simp only [zV,guardV,Nat.reduceEqDiff,reduceIte];done)
    simp only [zW,set_some,Nat.reduceEqDiff,reduceIte]
  | skip
    refine v_op ?_;intro K k;simp only [zE,zG,aStepM,optable,set_some,Nat.reduceEqDiff,reduceIte,Nat.reduceLT,implies_true,forall_const,reduceCtorEq,V.ofValue,V.ofScalar,V.un,V.gd,guardV,V.wrap,aExec,aop,aBin,isNil,or_true,true_or,or_false,false_or,EK.fitsL,EK.fits,cellsEq,cellEq,contentL,Value.oneCell',List.all_cons,List.all_nil,Bool.and_self,‹Tys _›.h,‹Fc _›.h];try simp (disch:=omega) only [wrap64]
    repeat (refine andA ?_)
    refine k _ ?_;clear k K
  exact b.h):A:=e b
theorem zBox {A B:Prop} (b:Ho B) (e:Ho B→A:=by
  intro b;refine v_op ?_;intro K k;simp only [zE,zS,zO,zN,aStepM,optable,set_some,Nat.reduceEqDiff,reduceIte,Nat.reduceLT,implies_true,forall_const,reduceCtorEq,V.ofValue,V.ofScalar,V.un,V.gd,aExec,aop,Nat.reduceAdd,V.isVal,V.cells,kindOf,kindAll,V.noSl,V.noRef,List.all_cons,List.all_nil,List.length_map,gt_iff_lt,Nat.reduceLeDiff,Nat.reduceMul,contentL,Value.oneCell',‹Tys _›.h,‹Fc _›.h];repeat (refine andA ?_)
  refine k _ ?_;clear k K;exact b.h):A:=e b
theorem zBuild {A B:Prop} (b:Ho B) (e:Ho B→A:=by
  intro b;refine v_op ?_;intro K k;simp only [zE,zL,zO,zN,aStepM,optable,set_some,Nat.reduceEqDiff,reduceIte,Nat.reduceLT,implies_true,forall_const,reduceCtorEq,V.ofValue,V.ofScalar,V.un,V.gd,aExec,aop,fillV,if_true,Nat.zero_mul,Nat.one_mul,Nat.mul_one,V.isVal,V.cells,List.mem_cons,List.not_mem_nil,or_false,forall_eq_or_imp,forall_eq,Nat.reduceAdd,Nat.reduceLeDiff,Nat.reduceMul,contentL,Value.oneCell',List.all_cons,List.all_nil,‹Tys _›.h,‹Fc _›.h];repeat (refine andA ?_)
  refine k _ ?_;clear k K;exact b.h):A:=e b
theorem zBuildSlice {A B:Prop} (b:Ho B) (e:Ho B→A:=by
  intro b;refine v_op ?_;intro K k;simp only [zE,zO,zN,aStepM,optable,set_some,Nat.reduceEqDiff,reduceIte,Nat.reduceLT,implies_true,forall_const,reduceCtorEq,V.ofValue,V.ofScalar,V.un,V.gd,aExec,aop,litElems,rng0,rng1,rng2,rng3,rng4,rng5,rng6,rng7,rng8,rng9,rng10,rng11,rng12,List.map_cons,List.map_nil,List.all_cons,List.all_nil,V.isVal,V.cells,content,contentL,kindAll,V.noRef,V.noSl,List.mem_cons,List.not_mem_nil,or_false,forall_eq_or_imp,forall_eq,if_true,Option.isSome_some,List.length_cons,List.length_nil,Nat.reduceAdd,Nat.reduceLeDiff,Nat.reduceMul,Value.oneCell',‹Tys _›.h,‹Fc _›.h];repeat (refine andA ?_)
  refine k _ ?_;clear k K;exact b.h):A:=e b
theorem zConvert {A B:Prop} (b:Ho B) (e:Ho B→A:=by
  intro b;refine v_op ?_;intro K k;simp only [zE,zL,zN,aStepM,optable,set_some,Nat.reduceEqDiff,reduceIte,Nat.reduceLT,implies_true,forall_const,reduceCtorEq,V.ofValue,V.ofScalar,V.un,V.gd,aExec,aop,unByte,row_mk,Blk.row,TypeDesc.slice.injEq,Nat.reduceAdd,Nat.reduceLeDiff,Nat.reduceMul,contentL,Value.oneCell',List.all_cons,List.all_nil,Bool.and_self,‹Tys _›.h,‹Fc _›.h];repeat (refine andA ?_)
  refine k _ ?_;clear k K;exact b.h):A:=e b
theorem zCopy {A B:Prop} (b:Ho B) (e:Ho B→A:=by
  intro b;refine v_op ?_;intro K k;simp only [zE,zL,zO,zN,aStepM,optable,set_some,Nat.reduceEqDiff,reduceIte,Nat.reduceLT,implies_true,forall_const,reduceCtorEq,V.ofValue,V.ofScalar,V.un,V.gd,aExec,aop,aCopy,dstRng,srcOf,row_mk,Blk.row,join_ff,join_fv,join_s,join_d,join_t,List.set_cons_zero,List.set_cons_succ,List.forall_mem_map,List.length_map,Go.Vm.V.cells,V.noSl,List.size_toArray,List.getD_eq_getElem?_getD,Array.getD_eq_getD_getElem?,Option.getD_some,TypeDesc.slice.injEq,Nat.reduceAdd,Nat.reduceLeDiff,Nat.reduceMul,contentL,Value.oneCell',List.all_cons,List.all_nil,‹Tys _›.h,‹Fc _›.h];repeat (refine andA ?_)
  refine k _ ?_;clear k K;exact b.h):A:=e b
theorem zExtract {A B:Prop} (b:Ho B) (e:Ho B→A:=by
  intro b;refine v_op ?_;intro K k;simp only [zE,zL,zN,aStepM,optable,set_some,Nat.reduceEqDiff,reduceIte,Nat.reduceLT,implies_true,forall_const,reduceCtorEq,V.ofValue,V.ofScalar,V.un,V.gd,aExec,aop,aExtract,Nat.reduceAdd,Nat.reduceLeDiff,Nat.reduceMul,contentL,Value.oneCell',List.all_cons,List.all_nil,Bool.and_self,‹Tys _›.h,‹Fc _›.h];repeat (refine andA ?_)
  refine k _ ?_;clear k K;exact b.h):A:=e b
theorem zFieldAddr {A B:Prop} (b:Ho B) (e:Ho B→A:=by
  intro b;refine v_op ?_;intro K k;simp only [zE,zL,zN,aStepM,optable,set_some,Nat.reduceEqDiff,reduceIte,Nat.reduceLT,implies_true,forall_const,reduceCtorEq,V.ofValue,V.ofScalar,V.un,V.gd,aExec,aop,aFieldAddr,Nat.reduceAdd,Nat.reduceLeDiff,Nat.reduceMul,contentL,Value.oneCell',List.all_cons,List.all_nil,Bool.and_self,‹Tys _›.h,‹Fc _›.h];repeat (refine andA ?_)
  refine k _ ?_;clear k K;exact b.h):A:=e b
theorem zgFieldAddr {A B:Prop} (b:Ho B) (e:Ho B→A:=by
  intro b;first
  | refine v_passB rfl rfl rfl ?_ ?_
    · first | rfl | (simp only [zV,guardV,Nat.reduceEqDiff,reduceIte];done)
    simp only [zW,set_some,Nat.reduceEqDiff,reduceIte]
  | skip
    refine v_op ?_;intro K k;simp only [zE,zL,zN,aStepM,optable,set_some,Nat.reduceEqDiff,reduceIte,Nat.reduceLT,implies_true,forall_const,reduceCtorEq,V.ofValue,V.ofScalar,V.un,V.gd,guardV,V.wrap,aExec,aop,aFieldAddr,Nat.reduceAdd,Nat.reduceLeDiff,Nat.reduceMul,contentL,Value.oneCell',List.all_cons,List.all_nil,Bool.and_self,‹Tys _›.h,‹Fc _›.h];repeat (refine andA ?_)
    refine k _ ?_;clear k K
  exact b.h):A:=e b
theorem zIndex {A B:Prop} (b:Ho B) (e:Ho B→A:=by
  intro b;refine v_op ?_;intro K k;simp only [zE,zL,zN,aStepM,optable,set_some,Nat.reduceEqDiff,reduceIte,Nat.reduceLT,implies_true,forall_const,reduceCtorEq,V.ofValue,V.ofScalar,V.un,V.gd,aExec,aop,aIndex,Int.toNat_natCast,Int.reduceToNat,Nat.reduceAdd,Nat.reduceLeDiff,Nat.reduceMul,contentL,Value.oneCell',List.all_cons,List.all_nil,Bool.and_self,‹Tys _›.h,‹Fc _›.h];repeat (refine andA ?_)
  refine k _ ?_;clear k K;exact b.h):A:=e b
theorem zgIndex {A B:Prop} (b:Ho B) (e:Ho B→A:=by
  intro b;first
  | refine v_passB rfl rfl rfl ?_ ?_
    · first | rfl | (simp only [zV,guardV,Nat.reduceEqDiff,reduceIte];done)
    simp only [zW,set_some,Nat.reduceEqDiff,reduceIte]
  | skip
    refine v_op ?_;intro K k;simp only [zE,zL,zN,aStepM,optable,set_some,Nat.reduceEqDiff,reduceIte,Nat.reduceLT,implies_true,forall_const,reduceCtorEq,V.ofValue,V.ofScalar,V.un,V.gd,guardV,V.wrap,aExec,aop,aIndex,Int.toNat_natCast,Int.reduceToNat,Nat.reduceAdd,Nat.reduceLeDiff,Nat.reduceMul,contentL,Value.oneCell',List.all_cons,List.all_nil,Bool.and_self,‹Tys _›.h,‹Fc _›.h];repeat (refine andA ?_)
    refine k _ ?_;clear k K
  exact b.h):A:=e b
theorem zIndexAddr {A B:Prop} (b:Ho B) (e:Ho B→A:=by
  intro b;refine v_op ?_;intro K k;simp only [zE,zL,zN,aStepM,optable,set_some,Nat.reduceEqDiff,reduceIte,Nat.reduceLT,implies_true,forall_const,reduceCtorEq,V.ofValue,V.ofScalar,V.un,V.gd,aExec,aop,List.mem_cons,List.not_mem_nil,or_false,forall_eq_or_imp,forall_eq,aIndexAddr,row_mk,Blk.row,Go.Vm.V.cells,List.forall_mem_map,List.length_map,Int.toNat_natCast,Int.reduceToNat,TypeDesc.slice.injEq,Nat.reduceAdd,Nat.reduceLeDiff,Nat.reduceMul,contentL,Value.oneCell',List.all_cons,List.all_nil,Bool.and_self,‹Tys _›.h,‹Fc _›.h];repeat (refine andA ?_)
  refine k _ ?_;clear k K;exact b.h):A:=e b
theorem zgIndexAddr {A B:Prop} (b:Ho B) (e:Ho B→A:=by
  intro b;first
  | refine v_passB rfl rfl rfl ?_ ?_
    · first | rfl | (simp only [zV,guardV,Nat.reduceEqDiff,reduceIte];done)
    simp only [zW,set_some,Nat.reduceEqDiff,reduceIte]
  | skip
    refine v_op ?_;intro K k;simp only [zE,zL,zN,aStepM,optable,set_some,Nat.reduceEqDiff,reduceIte,Nat.reduceLT,implies_true,forall_const,reduceCtorEq,V.ofValue,V.ofScalar,V.un,V.gd,guardV,V.wrap,aExec,aop,List.mem_cons,List.not_mem_nil,or_false,forall_eq_or_imp,forall_eq,aIndexAddr,row_mk,Blk.row,Go.Vm.V.cells,List.forall_mem_map,List.length_map,Int.toNat_natCast,Int.reduceToNat,TypeDesc.slice.injEq,Nat.reduceAdd,Nat.reduceLeDiff,Nat.reduceMul,contentL,Value.oneCell',List.all_cons,List.all_nil,Bool.and_self,‹Tys _›.h,‹Fc _›.h];repeat (refine andA ?_)
    refine k _ ?_;clear k K
  exact b.h):A:=e b
theorem zLen {A B:Prop} (b:Ho B) (e:Ho B→A:=by
  intro b;refine v_op ?_;intro K k;simp only [zE,zL,zN,aStepM,optable,set_some,Nat.reduceEqDiff,reduceIte,Nat.reduceLT,implies_true,forall_const,reduceCtorEq,V.ofValue,V.ofScalar,V.un,V.gd,aExec,aop,List.length_map,aLen,lenOK,row_mk,Blk.row,List.size_toArray,List.getD_eq_getElem?_getD,Array.getD_eq_getD_getElem?,Option.getD_some,Nat.reduceAdd,Nat.reduceLeDiff,Nat.reduceMul,contentL,Value.oneCell',List.all_cons,List.all_nil,Bool.and_self,‹Tys _›.h,‹Fc _›.h];repeat (refine andA ?_)
  refine k _ ?_;clear k K;exact b.h):A:=e b
theorem zgLen {A B:Prop} (b:Ho B) (e:Ho B→A:=by
  intro b;first
  | refine v_passB rfl rfl rfl ?_ ?_
    · first | rfl | (simp only [zV,guardV,Nat.reduceEqDiff,reduceIte];done)
    simp only [zW,set_some,Nat.reduceEqDiff,reduceIte]
  | skip
    refine v_op ?_;intro K k;simp only [zE,zL,zN,aStepM,optable,set_some,Nat.reduceEqDiff,reduceIte,Nat.reduceLT,implies_true,forall_const,reduceCtorEq,V.ofValue,V.ofScalar,V.un,V.gd,guardV,V.wrap,aExec,aop,List.length_map,aLen,lenOK,row_mk,Blk.row,List.size_toArray,List.getD_eq_getElem?_getD,Array.getD_eq_getD_getElem?,Option.getD_some,Nat.reduceAdd,Nat.reduceLeDiff,Nat.reduceMul,contentL,Value.oneCell',List.all_cons,List.all_nil,Bool.and_self,‹Tys _›.h,‹Fc _›.h];repeat (refine andA ?_)
    refine k _ ?_;clear k K
  exact b.h):A:=e b
theorem zLoad {A B:Prop} (b:Ho B) (e:Ho B→A:=by
  intro b;refine v_op ?_;intro K k;simp only [zE,zL,zO,zN,aStepM,optable,set_some,Nat.reduceEqDiff,reduceIte,Nat.reduceLT,implies_true,forall_const,reduceCtorEq,V.ofValue,V.ofScalar,V.un,V.gd,aExec,aop,aLoad,row_mk,Blk.row,PartOK,Go.Vm.part,V.cells,V.noSl,V.noRef,Nat.reduceAdd,Nat.reduceLeDiff,Nat.reduceMul,contentL,Value.oneCell',List.all_cons,List.all_nil,‹Tys _›.h,‹Fc _›.h];repeat (refine andA ?_)
  refine k _ ?_;clear k K;exact b.h):A:=e b
theorem zgLoad {A B:Prop} (b:Ho B) (e:Ho B→A:=by
  intro b;first
  | refine v_passB rfl rfl rfl ?_ ?_
    · first | rfl | (simp only [zV,guardV,Nat.reduceEqDiff,reduceIte];done)
    simp only [zW,set_some,Nat.reduceEqDiff,reduceIte]
  | skip
    refine v_op ?_;intro K k;simp only [zE,zL,zO,zN,aStepM,optable,set_some,Nat.reduceEqDiff,reduceIte,Nat.reduceLT,implies_true,forall_const,reduceCtorEq,V.ofValue,V.ofScalar,V.un,V.gd,guardV,V.wrap,aExec,aop,aLoad,row_mk,Blk.row,PartOK,Go.Vm.part,V.cells,V.noSl,V.noRef,Nat.reduceAdd,Nat.reduceLeDiff,Nat.reduceMul,contentL,Value.oneCell',List.all_cons,List.all_nil,‹Tys _›.h,‹Fc _›.h];repeat (refine andA ?_)
    refine k _ ?_;clear k K
  exact b.h):A:=e b
theorem zMakeFunc {A B:Prop} (b:Ho B) (e:Ho B→A:=by
  intro b;refine v_op ?_;intro K k;simp only [zE,zL,aStepM,optable,set_some,Nat.reduceEqDiff,reduceIte,Nat.reduceLT,implies_true,forall_const,reduceCtorEq,V.ofValue,V.ofScalar,V.un,V.gd,aExec,aop,contentL,Value.oneCell',List.all_cons,List.all_nil,Bool.and_self,‹Tys _›.h,‹Fc _›.h];repeat (refine andA ?_)
  refine k _ ?_;clear k K;exact b.h):A:=e b
theorem zgMakeFunc {A B:Prop} (b:Ho B) (e:Ho B→A:=by
  intro b;first
  | refine v_passB rfl rfl rfl ?_ ?_
    · first | rfl | (simp only [zV,guardV,Nat.reduceEqDiff,reduceIte];done)
    simp only [zW,set_some,Nat.reduceEqDiff,reduceIte]
  | skip
    refine v_op ?_;intro K k;simp only [zE,zL,aStepM,optable,set_some,Nat.reduceEqDiff,reduceIte,Nat.reduceLT,implies_true,forall_const,reduceCtorEq,V.ofValue,V.ofScalar,V.un,V.gd,guardV,V.wrap,aExec,aop,contentL,Value.oneCell',List.all_cons,List.all_nil,Bool.and_self,‹Tys _›.h,‹Fc _›.h];repeat (refine andA ?_)
    refine k _ ?_;clear k K
  exact b.h):A:=e b
theorem zMakeSlice {A B:Prop} (b:Ho B) (e:Ho B→A:=by
  intro b;refine v_op ?_;intro K k;simp only [zE,zL,zO,zN,aStepM,optable,set_some,Nat.reduceEqDiff,reduceIte,Nat.reduceLT,implies_true,forall_const,reduceCtorEq,V.ofValue,V.ofScalar,V.un,V.gd,aExec,aop,content,V.isVal,V.cells,V.noRef,V.noSl,Int.toNat_natCast,Nat.reduceAdd,Nat.reduceLeDiff,Nat.reduceMul,contentL,Value.oneCell',List.all_cons,List.all_nil,‹Tys _›.h,‹Fc _›.h];repeat (refine andA ?_)
  refine k _ ?_;clear k K;exact b.h):A:=e b
theorem zMax {A B:Prop} (b:Ho B) (e:Ho B→A:=by
  intro b;refine v_op ?_;intro K k;simp only [zE,aStepM,optable,set_some,Nat.reduceEqDiff,reduceIte,Nat.reduceLT,implies_true,forall_const,reduceCtorEq,V.ofValue,V.ofScalar,V.un,V.gd,aExec,aop,aMinMax,List.mem_cons,List.not_mem_nil,or_false,forall_eq_or_imp,forall_eq,List.map_cons,List.map_nil,if_true,if_false,contentL,Value.oneCell',List.all_cons,List.all_nil,Bool.and_self,‹Tys _›.h,‹Fc _›.h];repeat (refine andA ?_)
  refine k _ ?_;clear k K;exact b.h):A:=e b
theorem zMove {A B:Prop} (b:Ho B) (e:Ho B→A:=by
  intro b;refine v_op ?_;intro K k;simp only [zE,aStepM,optable,set_some,Nat.reduceEqDiff,reduceIte,Nat.reduceLT,implies_true,forall_const,reduceCtorEq,V.ofValue,V.ofScalar,V.un,V.gd,aExec,aop,contentL,Value.oneCell',List.all_cons,List.all_nil,Bool.and_self,‹Tys _›.h,‹Fc _›.h];repeat (refine andA ?_)
  refine k _ ?_;clear k K;exact b.h):A:=e b
theorem zgMove {A B:Prop} (b:Ho B) (e:Ho B→A:=by
  intro b;first
  | refine v_passB rfl rfl rfl ?_ ?_
    · first | rfl | (simp only [zV,guardV,Nat.reduceEqDiff,reduceIte];done)
    simp only [zW,set_some,Nat.reduceEqDiff,reduceIte]
  | skip
    refine v_op ?_;intro K k;simp only [zE,zG,aStepM,optable,set_some,Nat.reduceEqDiff,reduceIte,Nat.reduceLT,implies_true,forall_const,reduceCtorEq,V.ofValue,V.ofScalar,V.un,V.gd,guardV,V.wrap,aExec,aop,contentL,Value.oneCell',List.all_cons,List.all_nil,Bool.and_self,‹Tys _›.h,‹Fc _›.h];repeat (refine andA ?_)
    refine k _ ?_;clear k K
  exact b.h):A:=e b
theorem zNilCheck {A B:Prop} (b:Ho B) (e:Ho B→A:=by
  intro b;refine v_op ?_;intro K k;simp only [zE,aStepM,optable,set_some,Nat.reduceEqDiff,reduceIte,Nat.reduceLT,implies_true,forall_const,reduceCtorEq,V.ofValue,V.ofScalar,V.un,V.gd,aExec,aop,contentL,Value.oneCell',List.all_cons,List.all_nil,Bool.and_self,‹Tys _›.h,‹Fc _›.h];repeat (refine andA ?_)
  refine k _ ?_;clear k K;exact b.h):A:=e b
theorem zgNilCheck {A B:Prop} (b:Ho B) (e:Ho B→A:=by
  intro b;first
  | refine v_passB rfl rfl rfl ?_ ?_
    · first | rfl | (simp only [zV,guardV,Nat.reduceEqDiff,reduceIte];done)
    simp only [zW,set_some,Nat.reduceEqDiff,reduceIte]
  | skip
    refine v_op ?_;intro K k;simp only [zE,zG,aStepM,optable,set_some,Nat.reduceEqDiff,reduceIte,Nat.reduceLT,implies_true,forall_const,reduceCtorEq,V.ofValue,V.ofScalar,V.un,V.gd,guardV,V.wrap,aExec,aop,contentL,Value.oneCell',List.all_cons,List.all_nil,Bool.and_self,‹Tys _›.h,‹Fc _›.h];repeat (refine andA ?_)
    refine k _ ?_;clear k K
  exact b.h):A:=e b
theorem zPick {A B:Prop} (b:Ho B) (e:Ho B→A:=by
  intro b;refine v_op ?_;intro K k;simp only [zE,zP,aStepM,optable,set_some,Nat.reduceEqDiff,reduceIte,Nat.reduceLT,implies_true,forall_const,reduceCtorEq,V.ofValue,V.ofScalar,V.un,V.gd,aExec,aop,pickV,contentL,Value.oneCell',List.all_cons,List.all_nil,Bool.and_self,‹Tys _›.h,‹Fc _›.h];repeat (refine andA ?_)
  refine k _ ?_;clear k K;exact b.h):A:=e b
theorem zgPick {A B:Prop} (b:Ho B) (e:Ho B→A:=by
  intro b;first
  | refine v_passB rfl rfl rfl ?_ ?_
    · first | rfl | (simp only [zV,guardV,Nat.reduceEqDiff,reduceIte];done)
    simp only [zW,set_some,Nat.reduceEqDiff,reduceIte]
  | skip
    refine v_op ?_;intro K k;simp only [zE,zP,zG,aStepM,optable,set_some,Nat.reduceEqDiff,reduceIte,Nat.reduceLT,implies_true,forall_const,reduceCtorEq,V.ofValue,V.ofScalar,V.un,V.gd,guardV,V.wrap,aExec,aop,pickV,contentL,Value.oneCell',List.all_cons,List.all_nil,Bool.and_self,‹Tys _›.h,‹Fc _›.h];repeat (refine andA ?_)
    refine k _ ?_;clear k K
  exact b.h):A:=e b
theorem zSlice {A B:Prop} (b:Ho B) (e:Ho B→A:=by
  intro b;refine v_op ?_;intro K k;simp only [zE,zL,zN,aStepM,optable,set_some,Nat.reduceEqDiff,reduceIte,Nat.reduceLT,implies_true,forall_const,reduceCtorEq,V.ofValue,V.ofScalar,V.un,V.gd,aExec,aop,List.set_cons_zero,List.set_cons_succ,aSlice,forall_eq',bound,ElemsOK,Option.map_none,Option.isNone_none,row_mk,Blk.row,TypeDesc.slice.injEq,List.forall_mem_map,List.length_map,Go.Vm.V.cells,Int.toNat_natCast,Int.reduceToNat,←List.map_take,←List.map_drop,List.take_length,Nat.reduceAdd,Nat.reduceLeDiff,Nat.reduceMul,contentL,Value.oneCell',List.all_cons,List.all_nil,Bool.and_self,‹Tys _›.h,‹Fc _›.h];repeat (refine andA ?_)
  refine k _ ?_;clear k K;exact b.h):A:=e b
theorem zStore {A B:Prop} (b:Ho B) (e:Ho B→A:=by
  intro b;refine v_op ?_;intro K k;simp only [zE,zS,zJ,zL,zO,zN,aStepM,optable,set_some,Nat.reduceEqDiff,reduceIte,Nat.reduceLT,implies_true,forall_const,reduceCtorEq,V.ofValue,V.ofScalar,V.un,V.gd,aExec,aop,aStore,setCells,V.isVal,V.cells,kindOf,kindAll,V.noSl,V.noRef,gt_iff_lt,Nat.reduceAdd,Nat.reduceLeDiff,Nat.reduceMul,takeV,takeCell,takeCells,row_mk,Blk.row,killAll,Nat.reduceBEq,join_t,contentL,Value.oneCell',‹Tys _›.h,‹Fc _›.h];repeat (refine andA ?_)
  refine k _ ?_;clear k K;exact b.h):A:=e b
theorem zUnOp {A B:Prop} (b:Ho B) (e:Ho B→A:=by
  intro b;refine v_op ?_;intro K k;simp only [zE,aStepM,optable,set_some,Nat.reduceEqDiff,reduceIte,Nat.reduceLT,implies_true,forall_const,reduceCtorEq,V.ofValue,V.ofScalar,V.un,V.gd,aExec,aop,aUn,contentL,Value.oneCell',List.all_cons,List.all_nil,Bool.and_self,‹Tys _›.h,‹Fc _›.h];repeat (refine andA ?_)
  refine k _ ?_;clear k K;exact b.h):A:=e b
theorem zgUnOp {A B:Prop} (b:Ho B) (e:Ho B→A:=by
  intro b;first
  | refine v_passB rfl rfl rfl ?_ ?_
    · first | rfl | (simp only [zV,guardV,Nat.reduceEqDiff,reduceIte];done)
    simp only [zW,set_some,Nat.reduceEqDiff,reduceIte]
  | skip
    refine v_op ?_;intro K k;simp only [zE,zG,aStepM,optable,set_some,Nat.reduceEqDiff,reduceIte,Nat.reduceLT,implies_true,forall_const,reduceCtorEq,V.ofValue,V.ofScalar,V.un,V.gd,guardV,V.wrap,aExec,aop,aUn,contentL,Value.oneCell',List.all_cons,List.all_nil,Bool.and_self,‹Tys _›.h,‹Fc _›.h];repeat (refine andA ?_)
    refine k _ ?_;clear k K
  exact b.h):A:=e b
theorem zNil {A B:Prop} (b:Ho B) (e:Ho B→A:=by
  intro b;refine v_op ?_;intro K k;simp only [zE,aStepM,optable,set_some,Nat.reduceEqDiff,reduceIte,Nat.reduceLT,implies_true,forall_const,reduceCtorEq,V.ofValue,V.ofScalar,V.un,V.gd,aExec,aop,aBin,isNil,or_true,true_or,or_false,false_or,EK.fitsL,EK.fits,cellsEq,cellEq,aNil,TypeDesc.slice.injEq,nil_eql,nil_neq,contentL,Value.oneCell',List.all_cons,List.all_nil,Bool.and_self,‹Tys _›.h,‹Fc _›.h];repeat (refine andA ?_)
  intro nb hnb;refine k _ ?_;clear k K;revert nb hnb;exact b.h):A:=e b
theorem zk {A B:Prop} (b:Ho B) (e:Ho B→A:=by
  intro b;simp only [keep_mk,keepE_nil,keepE_cons,look_cons,look_nil,Nat.reduceEqDiff,reduceIte];exact b.h):A:=e b
theorem zCl {A B:Prop} (b:Ho B) (e:Ho B→A:=by
  intro b;simp only [zE,zL,zO,zN,aStepM,optable,set_some,Nat.reduceEqDiff,reduceIte,Nat.reduceLT,implies_true,forall_const,reduceCtorEq,V.ofValue,V.ofScalar,V.un,V.gd,aLoad,row_mk,Blk.row,PartOK,Go.Vm.part,V.cells,V.noSl,V.noRef,Nat.reduceAdd,Nat.reduceLeDiff,Nat.reduceMul,‹Tys _›.h];exact b.h):A:=e b
theorem zf {A B:Prop} (b:Ho B) (e:Ho B→A:=by
  intro b;simp only [resK,pickRV,get_mk,look_cons,look_nil,Nat.reduceEqDiff,reduceIte,List.map_cons,List.map_nil];exact b.h):A:=e b
theorem v_condS {P:Program} {L:Lend} {m:Nat} {Q:AEx→St→Prop} {s:St} {c:Operand} {x y:Code} (b:Bool) (hc:s.ev c=.bool b) {p q:Prop} (h1:p→awp P L m x Q s) (h2:q→awp P L m y Q s)
    (hp:b=true→p:=by first | (intro h;simp only [zC,reduceCtorEq] at h;exact h) | exact fun h=>h) (hq:b=false→q:=by first | (intro h;simp only [zC,reduceCtorEq] at h;exact h) | exact fun h=>h):awp P L m (.cond c x y) Q s:=
  v_cond b hc (fun h=>h1 (hp h)) (fun h=>h2 (hq h))
theorem weak_bothS {m:Nat} {s s':St} {B:Prop} (ks ids:List Nat) (b:Ho B) (hn:ids.Nodup:=by decide) (hm:∀j,j < m→ids[j]? =some j:=by simp)
    (he:∀p∈(s.keep ks).env,p.2.only (fun id=>(idx ids id).isSome)=true:=by simp [keep_mk,keepE_nil,keepE_cons,look_cons,V.only,V.onlyL,idx]<;>(first | rfl | decide))
    (hb:∀id∈ids,∀bk,s.O[id]? =some bk→bk.kindIs (fun k=>k.nm)=true:=by simp [Blk.kindIs,fillK_mix,thK_mix])
    (e:Ho B→(s.keep ks).comp ids=s':=by
      intro b;simp only [keep_mk,keepE_nil,keepE_cons,look_cons,look_nil,Nat.reduceEqDiff,reduceIte,St.comp,List.map_cons,List.map_nil,V.ren,V.renL,idx,List.getD_cons_zero,List.getD_cons_succ,Nat.reduceBEq,cond_true,cond_false,Option.map_some,Option.getD_some,Nat.reduceAdd,beq_dec,decide_true,decide_false];exact b.h):Weak m s s':=weak_both ks ids hn hm he hb (e b)
theorem weak_bothC {m:Nat} {s s':St} {B:Prop} (ks ids:List Nat) (b:Ho B) (hn:ids.Nodup:=by decide) (hm:∀j,j < m→ids[j]? =some j:=by simp)
    (he:∀p∈(s.keep ks).env,p.2.only (fun id=>(idx ids id).isSome)=true:=by simp [keep_mk,keepE_nil,keepE_cons,look_cons,V.only,V.onlyL,idx,‹Caps _›.cn]<;>(first | rfl | decide))
    (hb:∀id∈ids,∀bk,s.O[id]? =some bk→bk.kindIs (fun k=>k.nm)=true:=by simp [Blk.kindIs,fillK_mix,thK_mix])
    (e:Ho B→(s.keep ks).comp ids=s':=by
      intro b;simp only [keep_mk,keepE_nil,keepE_cons,look_cons,look_nil,Nat.reduceEqDiff,reduceIte,St.comp,List.map_cons,List.map_nil,V.ren,V.renL,idx,List.getD_cons_zero,List.getD_cons_succ,Nat.reduceBEq,cond_true,cond_false,Option.map_some,Option.getD_some,Nat.reduceAdd,beq_dec,decide_true,decide_false,‹Caps _›.cr];exact b.h):Weak m s s':=weak_both ks ids hn hm he hb (e b)
theorem weak_bothN {m:Nat} {s s':St} {B:Prop} (ks ids:List Nat) (b:Ho B) (hn:ids.Nodup:=by decide) (hm:∀j,j < m→ids[j]? =some j:=by simp)
    (he:∀p∈(s.keep ks).env,p.2.only (fun id=>(idx ids id).isSome)=true:=by simp [keep_mk,keepE_nil,keepE_cons,look_cons,V.only,V.onlyL,idx]<;>(first | rfl | decide))
    (hb:∀id∈ids,∀bk,s.O[id]? =some bk→bk.onlyM (fun id=>(idx ids id).isSome)=true:=by simp [Blk.onlyM,isMix_flat,isMix_deep,isMix_shal,isMix_thin,isMix_mix,isMix_part,isMix_fillK,isMix_thK,V.only,V.onlyL,idx]<;>(first | rfl | decide))
    (e:Ho B→(s.keep ks).compM ids=s':=by
      intro b;simp only [keep_mk,keepE_nil,keepE_cons,look_cons,look_nil,Nat.reduceEqDiff,reduceIte,St.compM,Blk.renM,isMix_flat,isMix_deep,isMix_shal,isMix_thin,isMix_mix,isMix_part,isMix_fillK,isMix_thK,List.map_cons,List.map_nil,V.ren,V.renL,idx,List.getD_cons_zero,List.getD_cons_succ,Nat.reduceBEq,cond_true,cond_false,Option.map_some,Option.getD_some,Nat.reduceAdd,beq_dec,decide_true,decide_false];exact b.h):Weak m s s':=weak_bothM ks ids hn hm he hb (e b)
theorem weak_one {m:Nat} {s:St} (ks ids:List Nat) (hn:ids.Nodup:=by decide) (hm:∀j,j < m→ids[j]? =some j:=by simp)
    (he:∀p∈(s.keep ks).env,p.2.only (fun id=>(idx ids id).isSome)=true:=by simp [keep_mk,keepE_nil,keepE_cons,look_cons,V.only,V.onlyL,idx]<;>(first | rfl | decide))
    (hb:∀id∈ids,∀bk,s.O[id]? =some bk→bk.onlyM (fun id=>(idx ids id).isSome)=true:=by simp [Blk.onlyM,isMix_flat,isMix_deep,isMix_shal,isMix_thin,isMix_mix,isMix_part,isMix_fillK,isMix_thK,V.only,V.onlyL,idx]<;>(first | rfl | decide)):Weak m s ((s.keep ks).compM ids):=weak_bothM ks ids hn hm he hb rfl
theorem weak_same {m:Nat} {s s':St} (ks ids:List Nat) (hn:ids.Nodup:=by decide) (hm:∀j,j < m→ids[j]? =some j:=by simp)
    (he:∀p∈(s.keep ks).env,p.2.only (fun id=>(idx ids id).isSome)=true:=by simp [keep_mk,keepE_nil,keepE_cons,look_cons,V.only,V.onlyL,idx]<;>(first | rfl | decide))
    (hb:∀id∈ids,∀bk,s.O[id]? =some bk→bk.onlyM (fun id=>(idx ids id).isSome)=true:=by simp [Blk.onlyM,isMix_flat,isMix_deep,isMix_shal,isMix_thin,isMix_mix,isMix_part,isMix_fillK,isMix_thK,V.only,V.onlyL,idx]<;>(first | rfl | decide))
    (e:(s.keep ks).compM ids=s':=by first | (simp only [keep_mk,keepE_nil,keepE_cons,look_cons,look_nil,Nat.reduceEqDiff,reduceIte,St.compM,Blk.renM,isMix_flat,isMix_deep,isMix_shal,isMix_thin,isMix_mix,isMix_part,isMix_fillK,isMix_thK,List.map_cons,List.map_nil,V.ren,V.renL,idx,List.getD_cons_zero,List.getD_cons_succ,Nat.reduceBEq,cond_true,cond_false,Option.map_some,Option.getD_some,Nat.reduceAdd,beq_dec,decide_true,decide_false];done) | rfl):Weak m s s':=weak_bothM ks ids hn hm he hb e
theorem zkm {A B:Prop} (b:Ho B) (e:Ho B→A:=by
  intro b;simp only [keep_mk,keepE_nil,keepE_cons,look_cons,look_nil,Nat.reduceEqDiff,reduceIte,St.compM,Blk.renM,isMix_flat,isMix_deep,isMix_shal,isMix_thin,isMix_mix,isMix_part,isMix_fillK,isMix_thK,List.map_cons,List.map_nil,V.ren,V.renL,idx,List.getD_cons_zero,List.getD_cons_succ,Nat.reduceBEq,cond_true,cond_false,Option.map_some,Option.getD_some,Nat.reduceAdd,beq_dec,decide_true,decide_false];exact b.h):A:=e b
theorem zc {C A B:Prop} (con:C) (b:Ho B) (e:C→Ho B→A:=by
  intro con b;refine v_op ?_;intro K k;simp only [zE,zM,aStepM,optable,set_some,Nat.reduceEqDiff,reduceIte,Nat.reduceLT,implies_true,forall_const,reduceCtorEq,V.ofValue,V.ofScalar,V.un,V.gd,aExec,lentIds,lendOf,‹Tys _›.h,‹Fc _›.h];repeat (refine andC ?_)
  refine aCall_new con (by first | rfl | (simp only [toArgs,toArg,toCell,toCells,toRows,Option.map_some,idx,row_mk,List.getElem?_cons_zero,List.getElem?_cons_succ,Option.bind_some,Blk.row,fillK_mix,thK_mix,flat_mix,deep_mix,thin_mix,shal_mix,cond_true,List.map_take];done) | (simp [toArgs,toArg,toCell,toCells,toRows,idx,row_mk,Blk.row,fillK_mix,thK_mix,flat_mix,deep_mix,thin_mix,shal_mix,Nat.beq_refl];done)) (by first | exact .inl ⟨rfl,by simp [Blk.kindIs,fillK_fd,thK_fd]⟩ | exact .inr (by simp [V.cold])) ?_;refine k _ ?_;clear k K;simp only [zY,zW,set_some,Nat.reduceEqDiff,reduceIte,V.ren,V.renL,rho,Nat.reduceAdd];exact b.h):A:=e con b
theorem zcl {C A B:Prop} (con:C) (b:Ho B) (e:C→Ho B→A:=by
  intro con b;refine v_op ?_;intro K k;simp only [zE,zM,aStepM,optable,set_some,Nat.reduceEqDiff,reduceIte,Nat.reduceLT,implies_true,forall_const,reduceCtorEq,V.ofValue,V.ofScalar,V.un,V.gd,aExec,lentIds,lendOf,‹Tys _›.h,‹Fc _›.h];repeat (refine andC ?_)
  refine aCall_lent _ con (by first | rfl | (simp only [toArgs,toArg,toCell,toCells,toRows,Option.map_some,idx,row_mk,List.getElem?_cons_zero,List.getElem?_cons_succ,Option.bind_some,Blk.row,fillK_mix,thK_mix,flat_mix,deep_mix,thin_mix,shal_mix,cond_true,List.map_take];done) | (simp [toArgs,toArg,toCell,toCells,toRows,idx,row_mk,Blk.row,fillK_mix,thK_mix,flat_mix,deep_mix,thin_mix,shal_mix,Nat.beq_refl];done)) (by rfl) ⟨by simp [Blk.kindIs,fillK_mix,thK_mix],by simp⟩ (by first | exact .inl rfl | exact .inr (by simp [Blk.kindIs])) ⟨rfl,by simp [Blk.kindIs,fillK_fd,thK_fd]⟩ ?_;refine k _ ?_;clear k K;simp only [zY,zW,set_some,Nat.reduceEqDiff,reduceIte,rho_one,rho_s,V.ren,V.renL,List.set_cons_zero,List.set_cons_succ,Nat.reduceAdd];exact b.h):A:=e con b
theorem zcc {C A B:Prop} (con:C) (b:Ho B) (e:C→Ho B→A:=by
  intro con b;refine v_op ?_;intro K k;simp only [zE,zM,aStepM,optable,set_some,Nat.reduceEqDiff,reduceIte,Nat.reduceLT,implies_true,forall_const,reduceCtorEq,V.ofValue,V.ofScalar,V.un,V.gd,aExec,lentIds,lendOf,‹Tys _›.h,‹Fc _›.h];repeat (refine andC ?_)
  refine aCall_new con (by first | rfl | (simp only [toArgs,toArg,toCell,toCells,toRows,Option.map_some,idx,row_mk,List.getElem?_cons_zero,List.getElem?_cons_succ,Option.bind_some,Blk.row,fillK_mix,thK_mix,flat_mix,deep_mix,thin_mix,shal_mix,cond_true,List.map_take,‹Caps _›.cc,‹Caps _›.ca];done) | (simp [toArgs,toArg,toCell,toCells,toRows,idx,row_mk,Blk.row,fillK_mix,thK_mix,flat_mix,deep_mix,thin_mix,shal_mix,Nat.beq_refl,‹Caps _›.cc,‹Caps _›.ca];done)) (by first | exact .inl ⟨rfl,by simp [Blk.kindIs,fillK_fd,thK_fd]⟩ | exact .inr (by simp [V.cold])) ?_;refine k _ ?_;clear k K;simp only [zY,zW,set_some,Nat.reduceEqDiff,reduceIte,V.ren,V.renL,rho,Nat.reduceAdd];exact b.h):A:=e con b
theorem zclc {C A B:Prop} (con:C) (b:Ho B) (e:C→Ho B→A:=by
  intro con b;refine v_op ?_;intro K k;simp only [zE,zM,aStepM,optable,set_some,Nat.reduceEqDiff,reduceIte,Nat.reduceLT,implies_true,forall_const,reduceCtorEq,V.ofValue,V.ofScalar,V.un,V.gd,aExec,lentIds,lendOf,‹Tys _›.h,‹Fc _›.h];repeat (refine andC ?_)
  refine aCall_lent _ con (by first | rfl | (simp only [toArgs,toArg,toCell,toCells,toRows,Option.map_some,idx,row_mk,List.getElem?_cons_zero,List.getElem?_cons_succ,Option.bind_some,Blk.row,fillK_mix,thK_mix,flat_mix,deep_mix,thin_mix,shal_mix,cond_true,List.map_take,‹Caps _›.cc,‹Caps _›.ca];done) | (simp [toArgs,toArg,toCell,toCells,toRows,idx,row_mk,Blk.row,fillK_mix,thK_mix,flat_mix,deep_mix,thin_mix,shal_mix,Nat.beq_refl,‹Caps _›.cc,‹Caps _›.ca];done)) (by rfl) ⟨by simp [Blk.kindIs,fillK_mix,thK_mix],by simp⟩ (by first | exact .inl rfl | exact .inr (by simp [Blk.kindIs])) ⟨rfl,by simp [Blk.kindIs,fillK_fd,thK_fd]⟩ ?_;refine k _ ?_;clear k K;simp only [zY,zW,set_some,Nat.reduceEqDiff,reduceIte,rho_one,rho_s,V.ren,V.renL,List.set_cons_zero,List.set_cons_succ,Nat.reduceAdd];exact b.h):A:=e con b
theorem aCall_newXB {P:Program} {s:St} {f:FuncId} {args args':List V} {R:V→List Blk→Prop} {g:V→St→St} {K X:St→Prop} (k:∀s,X s→K s) (hc:ConX P f args' [] R)
    (h:∀r O',R r O'→((r.clean=true∧∀b∈O',b.kindIs (fun k=>k != .shal && k.nm)=true)∨(∀x∈args,x.coldIn []=true))∧X (g (r.ren (rho [] s.O.length)) {s with O:=s.O++O'})) (ht:toArgs s [] args=some args':=by first | rfl | (simp only [toArgs,toArg,toCell,toCells,toRows,Option.map_some,idx,row_mk,List.getElem?_cons_zero,List.getElem?_cons_succ,Option.bind_some,Blk.row,fillK_mix,thK_mix,flat_mix,deep_mix,thin_mix,shal_mix,cond_true,List.map_take];done) | (simp [toArgs,toArg,toCell,toCells,toRows,idx,row_mk,Blk.row,fillK_mix,thK_mix,flat_mix,deep_mix,thin_mix,shal_mix,Nat.beq_refl];done) | (simp only [toArgs,toArg,toCell,toCells,toRows,Option.map_some,idx,row_mk,List.getElem?_cons_zero,List.getElem?_cons_succ,Option.bind_some,Blk.row,fillK_mix,thK_mix,flat_mix,deep_mix,thin_mix,shal_mix,cond_true,cond_false,Option.map_none,Nat.reduceAdd,List.map_take,Nat.beq_refl,‹Fc _›.h];done)):aCall P s f [] args (fun v s'=>K (g v s')):=
  aCall_newX hc ht fun r O' q=>⟨(h r O' q).1,k _ (h r O' q).2⟩
theorem aCall_lentXB {P:Program} {s:St} {f:FuncId} {args args':List V} {R:V→List Blk→Prop} {g:V→St→St} {K X:St→Prop} (k:∀s,X s→K s) {bk:Blk} {id:Nat} (hc:ConX P f args' [bk] R)
    (h:∀r O',R r O'→∃bk' O1,O'=bk'::O1∧((r.clean=true∧∀b∈O',b.kindIs (fun k=>k != .shal && k.nm)=true)∨(∀x∈args,x.coldIn [id]=true))∧X (g (r.ren (rho [id] s.O.length)) {s with O:=s.O.set id bk'++O1})) (ht:toArgs s [id] args=some args':=by first | rfl | (simp only [toArgs,toArg,toCell,toCells,toRows,Option.map_some,idx,row_mk,List.getElem?_cons_zero,List.getElem?_cons_succ,Option.bind_some,Blk.row,fillK_mix,thK_mix,flat_mix,deep_mix,thin_mix,shal_mix,cond_true,List.map_take];done) | (simp [toArgs,toArg,toCell,toCells,toRows,idx,row_mk,Blk.row,fillK_mix,thK_mix,flat_mix,deep_mix,thin_mix,shal_mix,Nat.beq_refl];done) | (simp only [toArgs,toArg,toCell,toCells,toRows,Option.map_some,idx,row_mk,List.getElem?_cons_zero,List.getElem?_cons_succ,Option.bind_some,Blk.row,fillK_mix,thK_mix,flat_mix,deep_mix,thin_mix,shal_mix,cond_true,cond_false,Option.map_none,Nat.reduceAdd,List.map_take,Nat.beq_refl,‹Fc _›.h];done)) (hO:s.O[id]? =some bk:=by first | rfl | assumption) (hbk:bk.kindIs (fun k=>k.nm)=true∧bk≠.dead:=by exact ⟨by simp [Blk.kindIs,fillK_mix,thK_mix],by simp⟩)
    (hv:s.vw=false∨bk.kindIs (fun k=>k == .flat)=true:=by first | exact .inl rfl | exact .inr (by simp [Blk.kindIs])):aCall P s f [id] args (fun v s'=>K (g v s')):=
  aCall_lentX id hc ht hO hbk hv fun r O' q=>(h r O' q).imp fun _ h=>h.imp fun _ h=>⟨h.1,h.2.1,k _ h.2.2⟩
theorem aCall_lent2XB {P:Program} {s:St} {f:FuncId} {args args':List V} {R:V→List Blk→Prop} {g:V→St→St} {K X:St→Prop} (k:∀s,X s→K s) {bk bk2:Blk} {i j:Nat} (hc:ConX P f args' [bk,bk2] R)
    (h:∀r O',R r O'→∃b1 b2 O1,O'=b1::b2::O1∧((r.clean=true∧∀b∈O',b.kindIs (fun k=>k != .shal && k.nm)=true)∨(∀x∈args,x.coldIn [i,j]=true))∧X (g (r.ren (rho [i,j] s.O.length)) {s with O:=(s.O.set i b1).set j b2++O1})) (ht:toArgs s [i,j] args=some args':=by first | rfl | (simp only [toArgs,toArg,toCell,toCells,toRows,Option.map_some,idx,row_mk,List.getElem?_cons_zero,List.getElem?_cons_succ,Option.bind_some,Blk.row,fillK_mix,thK_mix,flat_mix,deep_mix,thin_mix,shal_mix,cond_true,List.map_take];done) | (simp [toArgs,toArg,toCell,toCells,toRows,idx,row_mk,Blk.row,fillK_mix,thK_mix,flat_mix,deep_mix,thin_mix,shal_mix,Nat.beq_refl];done) | (simp only [toArgs,toArg,toCell,toCells,toRows,Option.map_some,idx,row_mk,List.getElem?_cons_zero,List.getElem?_cons_succ,Option.bind_some,Blk.row,fillK_mix,thK_mix,flat_mix,deep_mix,thin_mix,shal_mix,cond_true,cond_false,Option.map_none,Nat.reduceAdd,List.map_take,Nat.beq_refl,‹Fc _›.h];done)) (hO:s.O[i]? =some bk:=by first | rfl | assumption) (hO2:s.O[j]? =some bk2:=by first | rfl | assumption) (hn:i≠j:=by first | decide | assumption | exact Ne.symm (by assumption)) (hbk:(bk.kindIs (fun k=>k.nm)=true∧bk≠.dead)∧(bk2.kindIs (fun k=>k.nm)=true∧bk2≠.dead):=by exact ⟨⟨by simp [Blk.kindIs,fillK_mix,thK_mix],by simp⟩,⟨by simp [Blk.kindIs,fillK_mix,thK_mix],by simp⟩⟩)
    (hv:s.vw=false:=by rfl):aCall P s f [i,j] args (fun v s'=>K (g v s')):=
  aCall_lent2X i j hc ht hO hO2 hn hbk hv fun r O' q=>(h r O' q).imp fun _ h=>h.imp fun _ h=>h.imp fun _ h=>⟨h.1,h.2.1,k _ h.2.2⟩
theorem zxn {C A B:Prop} (con:C) (b:Ho B) (e:C→Ho B→A:=by
  intro con b;refine v_op ?_;intro K k;simp only [zE,zM,aStepM,optable,set_some,Nat.reduceEqDiff,reduceIte,Nat.reduceLT,implies_true,forall_const,reduceCtorEq,V.ofValue,V.ofScalar,V.un,V.gd,aExec,lentIds,lendOf,‹Tys _›.h,‹Fc _›.h];repeat (refine andC ?_)
  exact aCall_newXB k con b.h):A:=e con b
theorem zsxn {C A B:Prop} (con:C) (b:Ho B) (e:C→Ho B→A:=by
  intro con b;intro K k;simp only [zE,zM,aStepM,optable,set_some,Nat.reduceEqDiff,reduceIte,Nat.reduceLT,implies_true,forall_const,reduceCtorEq,V.ofValue,V.ofScalar,V.un,V.gd,aExec,lentIds,lendOf,‹Tys _›.h,‹Fc _›.h];repeat (refine andC ?_)
  exact aCall_newXB k con b.h):A:=e con b
theorem zxl {C A B:Prop} (con:C) (b:Ho B) (e:C→Ho B→A:=by
  intro con b;refine v_op ?_;intro K k;simp only [zE,zM,aStepM,optable,set_some,Nat.reduceEqDiff,reduceIte,Nat.reduceLT,implies_true,forall_const,reduceCtorEq,V.ofValue,V.ofScalar,V.un,V.gd,aExec,lentIds,lendOf,‹Tys _›.h,‹Fc _›.h];repeat (refine andC ?_)
  exact aCall_lentXB k con b.h):A:=e con b
theorem zsxl {C A B:Prop} (con:C) (b:Ho B) (e:C→Ho B→A:=by
  intro con b;intro K k;simp only [zE,zM,aStepM,optable,set_some,Nat.reduceEqDiff,reduceIte,Nat.reduceLT,implies_true,forall_const,reduceCtorEq,V.ofValue,V.ofScalar,V.un,V.gd,aExec,lentIds,lendOf,‹Tys _›.h,‹Fc _›.h];repeat (refine andC ?_)
  exact aCall_lentXB k con b.h):A:=e con b
theorem zoxl {P:Program} {L:Lend} {rg:Array Oper} {K:St→Prop} {fuel:Nat} {listed:Array Bool} {s:St} {oi:Oper} {rest:List Oper} {B:Prop} {C:Prop} (i:Nat) (con:C) (b:Ho B) (hi:rg.toList.drop i=oi::rest:=by rfl) (hr:Region.ready .any rg listed=[i]:=by kernel_rfl)
    (e:C→Ho B→(∀K':St→Prop,(∀s,aAny P L rg K fuel (listed.setIfInBounds i true) s→K' s)→aStepM P L rg oi s K'):=by
  intro con b;intro K k;simp only [zE,zM,aStepM,optable,set_some,Nat.reduceEqDiff,reduceIte,Nat.reduceLT,implies_true,forall_const,reduceCtorEq,V.ofValue,V.ofScalar,V.un,V.gd,aExec,lentIds,lendOf,‹Tys _›.h,‹Fc _›.h];repeat (refine andC ?_)
  exact aCall_lentXB k con b.h):aAny P L rg K (fuel+1) listed s:=aAny_only i hi hr (e con b)
theorem zxt {C A B:Prop} (con:C) (b:Ho B) (e:C→Ho B→A:=by
  intro con b;refine v_op ?_;intro K k;simp only [zE,zM,aStepM,optable,set_some,Nat.reduceEqDiff,reduceIte,Nat.reduceLT,implies_true,forall_const,reduceCtorEq,V.ofValue,V.ofScalar,V.un,V.gd,aExec,lentIds,lendOf,‹Tys _›.h,‹Fc _›.h];repeat (refine andC ?_)
  exact aCall_lent2XB k con b.h):A:=e con b
theorem zsxt {C A B:Prop} (con:C) (b:Ho B) (e:C→Ho B→A:=by
  intro con b;intro K k;simp only [zE,zM,aStepM,optable,set_some,Nat.reduceEqDiff,reduceIte,Nat.reduceLT,implies_true,forall_const,reduceCtorEq,V.ofValue,V.ofScalar,V.un,V.gd,aExec,lentIds,lendOf,‹Tys _›.h,‹Fc _›.h];repeat (refine andC ?_)
  exact aCall_lent2XB k con b.h):A:=e con b
theorem zEn {A B:Prop} (b:Ho B) (e:Ho B→A:=by
  intro b;refine ⟨by first | exact .inr (qlh.1 rfl) | (refine .inl ⟨rfl,?_⟩;simp [Blk.kindIs,fillK_fd,thK_fd];done) | (refine .inr ?_;simp [V.coldIn,V.cold,idx];done) | (refine .inr ?_;simp [V.coldIn,V.cold,idx,Nat.beq_refl,‹Fc _›.h];done),?_⟩;simp only [zY,zW,set_some,Nat.reduceEqDiff,reduceIte,rho_one,rho_s,rho2_s,rho2_0,rho2_1,V.ren,V.renL,List.set_cons_zero,List.set_cons_succ,rho,Nat.reduceAdd,Nat.add_zero,Nat.lt_irrefl,Nat.reduceLT,Nat.reduceSub,Nat.sub_self];exact b.h):A:=e b
theorem zEl {A B:Prop} (b:Ho B) (e:Ho B→A:=by
  intro b;refine ⟨_,_,rfl,by first | exact .inr (qlh.1 rfl) | (refine .inl ⟨rfl,?_⟩;simp [Blk.kindIs,fillK_fd,thK_fd];done) | (refine .inr ?_;simp [V.coldIn,V.cold,idx];done) | (refine .inr ?_;simp [V.coldIn,V.cold,idx,Nat.beq_refl,‹Fc _›.h];done),?_⟩;simp only [zY,zW,set_some,Nat.reduceEqDiff,reduceIte,rho_one,rho_s,rho2_s,rho2_0,rho2_1,V.ren,V.renL,List.set_cons_zero,List.set_cons_succ,rho,Nat.reduceAdd,Nat.add_zero,Nat.lt_irrefl,Nat.reduceLT,Nat.reduceSub,Nat.sub_self];exact b.h):A:=e b
theorem zEt {A B:Prop} (b:Ho B) (e:Ho B→A:=by
  intro b;refine ⟨_,_,_,rfl,by first | exact .inr (qlh.1 rfl) | (refine .inl ⟨rfl,?_⟩;simp [Blk.kindIs,fillK_fd,thK_fd];done) | (refine .inr ?_;simp [V.coldIn,V.cold,idx];done) | (refine .inr ?_;simp [V.coldIn,V.cold,idx,Nat.beq_refl,‹Fc _›.h];done),?_⟩;simp only [zY,zW,set_some,Nat.reduceEqDiff,reduceIte,rho_one,rho_s,rho2_s,rho2_0,rho2_1,V.ren,V.renL,List.set_cons_zero,List.set_cons_succ,rho,Nat.reduceAdd,Nat.add_zero,Nat.lt_irrefl,Nat.reduceLT,Nat.reduceSub,Nat.sub_self];exact b.h):A:=e b
theorem zgc {C A B:Prop} (con:C) (b:Ho B) (e:C→Ho B→A:=by
  intro con b;first
  | refine v_passB rfl rfl rfl ?_ ?_
    · first | rfl | (simp only [zV,guardV,Nat.reduceEqDiff,reduceIte];done)
    simp only [zW,set_some,Nat.reduceEqDiff,reduceIte]
  | skip
    refine v_op ?_;intro K k;simp only [zE,zG,aStepM,optable,set_some,Nat.reduceEqDiff,reduceIte,Nat.reduceLT,implies_true,forall_const,reduceCtorEq,V.ofValue,V.ofScalar,V.un,V.gd,guardV,‹Tys _›.h,‹Fc _›.h];simp only [zM,zW,aExec,lentIds,lendOf,set_some,Nat.reduceEqDiff,reduceIte,V.ofValue,V.ofScalar,V.un,V.gd,and_true,true_and,implies_true,and_self,decide_eq_true_eq];first | refine Exists.imp (fun r h=>h) (aCall_guardT con (by first | rfl | (simp only [toArgs,toArg,toCell,toCells,toRows,Option.map_some,idx,row_mk,List.getElem?_cons_zero,List.getElem?_cons_succ,Option.bind_some,Blk.row,fillK_mix,thK_mix,flat_mix,deep_mix,thin_mix,shal_mix,cond_true,List.map_take];done) | (simp [toArgs,toArg,toCell,toCells,toRows,idx,row_mk,Blk.row,fillK_mix,thK_mix,flat_mix,deep_mix,thin_mix,shal_mix,Nat.beq_refl];done)) rfl rfl ?_) | refine Exists.imp (fun r h=>h) (aCall_guard0 (fun hg=>con) (by first | rfl | (simp only [toArgs,toArg,toCell,toCells,toRows,Option.map_some,idx,row_mk,List.getElem?_cons_zero,List.getElem?_cons_succ,Option.bind_some,Blk.row,fillK_mix,thK_mix,flat_mix,deep_mix,thin_mix,shal_mix,cond_true,List.map_take];done) | (simp [toArgs,toArg,toCell,toCells,toRows,idx,row_mk,Blk.row,fillK_mix,thK_mix,flat_mix,deep_mix,thin_mix,shal_mix,Nat.beq_refl];done)) rfl rfl ?_) | refine Exists.imp (fun r h=>h) (aCall_guard (by first | (intros;trivial) | (intros;simp_all;done)) (fun hg=>con) (by first | rfl | (simp only [toArgs,toArg,toCell,toCells,toRows,Option.map_some,idx,row_mk,List.getElem?_cons_zero,List.getElem?_cons_succ,Option.bind_some,Blk.row,fillK_mix,thK_mix,flat_mix,deep_mix,thin_mix,shal_mix,cond_true,List.map_take];done) | (simp [toArgs,toArg,toCell,toCells,toRows,idx,row_mk,Blk.row,fillK_mix,thK_mix,flat_mix,deep_mix,thin_mix,shal_mix,Nat.beq_refl];done)) rfl rfl ?_)
    refine k _ ?_;clear k K
  exact b.h):A:=e con b
theorem zsMove {A B:Prop} (b:Ho B) (e:Ho B→A:=by
  intro b;intro K k;simp only [zE,aStepM,optable,set_some,Nat.reduceEqDiff,reduceIte,Nat.reduceLT,implies_true,forall_const,reduceCtorEq,V.ofValue,V.ofScalar,V.un,V.gd,aExec,aop,contentL,Value.oneCell',List.all_cons,List.all_nil,Bool.and_self,‹Tys _›.h,‹Fc _›.h];repeat (refine andA ?_)
  refine k _ ?_;clear k K;exact b.h):A:=e b
theorem zsFieldAddr {A B:Prop} (b:Ho B) (e:Ho B→A:=by
  intro b;intro K k;simp only [zE,zL,zN,aStepM,optable,set_some,Nat.reduceEqDiff,reduceIte,Nat.reduceLT,implies_true,forall_const,reduceCtorEq,V.ofValue,V.ofScalar,V.un,V.gd,aExec,aop,aFieldAddr,Nat.reduceAdd,Nat.reduceLeDiff,Nat.reduceMul,contentL,Value.oneCell',List.all_cons,List.all_nil,Bool.and_self,‹Tys _›.h,‹Fc _›.h];repeat (refine andA ?_)
  refine k _ ?_;clear k K;exact b.h):A:=e b
theorem zsExtract {A B:Prop} (b:Ho B) (e:Ho B→A:=by
  intro b;intro K k;simp only [zE,zL,zN,aStepM,optable,set_some,Nat.reduceEqDiff,reduceIte,Nat.reduceLT,implies_true,forall_const,reduceCtorEq,V.ofValue,V.ofScalar,V.un,V.gd,aExec,aop,aExtract,Nat.reduceAdd,Nat.reduceLeDiff,Nat.reduceMul,contentL,Value.oneCell',List.all_cons,List.all_nil,Bool.and_self,‹Tys _›.h,‹Fc _›.h];repeat (refine andA ?_)
  refine k _ ?_;clear k K;exact b.h):A:=e b
theorem zsBuild {A B:Prop} (b:Ho B) (e:Ho B→A:=by
  intro b;intro K k;simp only [zE,zL,zO,zN,aStepM,optable,set_some,Nat.reduceEqDiff,reduceIte,Nat.reduceLT,implies_true,forall_const,reduceCtorEq,V.ofValue,V.ofScalar,V.un,V.gd,aExec,aop,fillV,if_true,Nat.zero_mul,Nat.one_mul,Nat.mul_one,V.isVal,V.cells,List.mem_cons,List.not_mem_nil,or_false,forall_eq_or_imp,forall_eq,Nat.reduceAdd,Nat.reduceLeDiff,Nat.reduceMul,contentL,Value.oneCell',List.all_cons,List.all_nil,‹Tys _›.h,‹Fc _›.h];repeat (refine andA ?_)
  refine k _ ?_;clear k K;exact b.h):A:=e b
theorem zsBinOp {A B:Prop} (b:Ho B) (e:Ho B→A:=by
  intro b;intro K k;simp only [zE,aStepM,optable,set_some,Nat.reduceEqDiff,reduceIte,Nat.reduceLT,implies_true,forall_const,reduceCtorEq,V.ofValue,V.ofScalar,V.un,V.gd,aExec,aop,aBin,isNil,or_true,true_or,or_false,false_or,EK.fitsL,EK.fits,cellsEq,cellEq,contentL,Value.oneCell',List.all_cons,List.all_nil,Bool.and_self,‹Tys _›.h,‹Fc _›.h];try simp (disch:=omega) only [wrap64]
  repeat (refine andA ?_)
  refine k _ ?_;clear k K;exact b.h):A:=e b
theorem zsAlloc {A B:Prop} (b:Ho B) (e:Ho B→A:=by
  intro b;intro K k;simp only [zE,zS,zO,zN,aStepM,optable,set_some,Nat.reduceEqDiff,reduceIte,Nat.reduceLT,implies_true,forall_const,reduceCtorEq,V.ofValue,V.ofScalar,V.un,V.gd,aExec,aop,Nat.reduceAdd,Value.oneCell',V.isVal,V.cells,kindOf,kindAll,V.noSl,V.noRef,List.all_cons,List.all_nil,List.map_cons,List.map_nil,gt_iff_lt,Nat.reduceLeDiff,Nat.reduceMul,contentL,‹Tys _›.h,‹Fc _›.h];repeat (refine andA ?_)
  refine k _ ?_;clear k K;exact b.h):A:=e b
theorem zsBuildSlice {A B:Prop} (b:Ho B) (e:Ho B→A:=by
  intro b;intro K k;simp only [zE,zO,zN,aStepM,optable,set_some,Nat.reduceEqDiff,reduceIte,Nat.reduceLT,implies_true,forall_const,reduceCtorEq,V.ofValue,V.ofScalar,V.un,V.gd,aExec,aop,litElems,rng0,rng1,rng2,rng3,rng4,rng5,rng6,rng7,rng8,rng9,rng10,rng11,rng12,List.map_cons,List.map_nil,List.all_cons,List.all_nil,V.isVal,V.cells,content,contentL,kindAll,V.noRef,V.noSl,List.mem_cons,List.not_mem_nil,or_false,forall_eq_or_imp,forall_eq,if_true,Option.isSome_some,List.length_cons,List.length_nil,Nat.reduceAdd,Nat.reduceLeDiff,Nat.reduceMul,Value.oneCell',‹Tys _›.h,‹Fc _›.h];repeat (refine andA ?_)
  refine k _ ?_;clear k K;exact b.h):A:=e b
theorem zsAppend {A B:Prop} (b:Ho B) (e:Ho B→A:=by
  intro b;intro K k;simp only [zE,zL,zO,zN,aStepM,optable,set_some,Nat.reduceEqDiff,reduceIte,Nat.reduceLT,implies_true,forall_const,reduceCtorEq,V.ofValue,V.ofScalar,V.un,V.gd,aExec,aop,fillK_thin,beq_self_eq_true,List.nodup_cons,List.mem_singleton,forall_eq',List.size_toArray,List.getD_eq_getElem?_getD,Array.getD_eq_getD_getElem?,Option.getD_some,aAppend,destOf,srcOf,takeElems,takeV,takeCell,takeCells,row_mk,Blk.row,killAll,V.isSub,V.noSl,Value.cells,Option.toList,List.forall_mem_map,List.length_map,List.all_cons,List.all_nil,List.isEmpty_nil,List.isEmpty_cons,List.not_mem_nil,List.nodup_nil,join_ff,join_ft,join_fv,join_d,join_s,fillK_join0,fillK_join,List.mem_cons,or_false,forall_eq_or_imp,forall_eq,List.set_cons_zero,List.set_cons_succ,List.length_append,Go.Vm.V.cells,Nat.reduceAdd,Nat.reduceLeDiff,Nat.reduceMul,contentL,Value.oneCell',‹Tys _›.h,‹Fc _›.h];repeat (refine andA ?_)
  refine k _ ?_;clear k K;exact b.h):A:=e b
theorem zsSlice {A B:Prop} (b:Ho B) (e:Ho B→A:=by
  intro b;intro K k;simp only [zE,zL,zN,aStepM,optable,set_some,Nat.reduceEqDiff,reduceIte,Nat.reduceLT,implies_true,forall_const,reduceCtorEq,V.ofValue,V.ofScalar,V.un,V.gd,aExec,aop,List.set_cons_zero,List.set_cons_succ,aSlice,forall_eq',bound,ElemsOK,Option.map_none,Option.isNone_none,row_mk,Blk.row,TypeDesc.slice.injEq,List.forall_mem_map,List.length_map,Go.Vm.V.cells,Int.toNat_natCast,Int.reduceToNat,←List.map_take,←List.map_drop,List.take_length,Nat.reduceAdd,Nat.reduceLeDiff,Nat.reduceMul,contentL,Value.oneCell',List.all_cons,List.all_nil,Bool.and_self,‹Tys _›.h,‹Fc _›.h];repeat (refine andA ?_)
  refine k _ ?_;clear k K;exact b.h):A:=e b
theorem zsLoad {A B:Prop} (b:Ho B) (e:Ho B→A:=by
  intro b;intro K k;simp only [zE,zL,zO,zN,aStepM,optable,set_some,Nat.reduceEqDiff,reduceIte,Nat.reduceLT,implies_true,forall_const,reduceCtorEq,V.ofValue,V.ofScalar,V.un,V.gd,aExec,aop,aLoad,row_mk,Blk.row,PartOK,Go.Vm.part,V.cells,V.noSl,V.noRef,Nat.reduceAdd,Nat.reduceLeDiff,Nat.reduceMul,contentL,Value.oneCell',List.all_cons,List.all_nil,‹Tys _›.h,‹Fc _›.h];repeat (refine andA ?_)
  refine k _ ?_;clear k K;exact b.h):A:=e b
theorem zsLen {A B:Prop} (b:Ho B) (e:Ho B→A:=by
  intro b;intro K k;simp only [zE,zL,zN,aStepM,optable,set_some,Nat.reduceEqDiff,reduceIte,Nat.reduceLT,implies_true,forall_const,reduceCtorEq,V.ofValue,V.ofScalar,V.un,V.gd,aExec,aop,List.length_map,aLen,lenOK,row_mk,Blk.row,List.size_toArray,List.getD_eq_getElem?_getD,Array.getD_eq_getD_getElem?,Option.getD_some,Nat.reduceAdd,Nat.reduceLeDiff,Nat.reduceMul,contentL,Value.oneCell',List.all_cons,List.all_nil,Bool.and_self,‹Tys _›.h,‹Fc _›.h];repeat (refine andA ?_)
  refine k _ ?_;clear k K;exact b.h):A:=e b
theorem zsc {C A B:Prop} (con:C) (b:Ho B) (e:C→Ho B→A:=by
  intro con b K k;simp only [zE,zM,aStepM,optable,set_some,Nat.reduceEqDiff,reduceIte,Nat.reduceLT,implies_true,forall_const,reduceCtorEq,V.ofValue,V.ofScalar,V.un,V.gd,aExec,lentIds,lendOf,‹Tys _›.h,‹Fc _›.h];repeat (refine andC ?_)
  refine aCall_new con (by first | rfl | (simp only [toArgs,toArg,toCell,toCells,toRows,Option.map_some,idx,row_mk,List.getElem?_cons_zero,List.getElem?_cons_succ,Option.bind_some,Blk.row,fillK_mix,thK_mix,flat_mix,deep_mix,thin_mix,shal_mix,cond_true,List.map_take];done) | (simp [toArgs,toArg,toCell,toCells,toRows,idx,row_mk,Blk.row,fillK_mix,thK_mix,flat_mix,deep_mix,thin_mix,shal_mix,Nat.beq_refl];done)) (by first | exact .inl ⟨rfl,by simp [Blk.kindIs,fillK_fd,thK_fd]⟩ | exact .inr (by simp [V.cold])) ?_;refine k _ ?_;clear k K;simp only [zY,zW,set_some,Nat.reduceEqDiff,reduceIte,V.ren,V.renL,rho,Nat.reduceAdd];exact b.h):A:=e con b
theorem row_all {O:List Blk} {t:St} (h:Grow O t.O):∀i,(O[i]?).isSome=true→t.row i=(O[i]?).bind Blk.row:=by
  intro i hi;unfold St.row;cases hb:O[i]? with
  | none=>rw [hb] at hi;cases hi
  | some b=>rw [h i b hb]
theorem zdMove {P:Program} {L:Lend} {rg:Array Oper} {K:St→Prop} {fuel:Nat} {listed:Array Bool} {env:List (Nat×V)} {O:List Blk} {vw:Bool} {n m:Nat} {oi:Oper} {rest:List Oper} {v:V} (hK:∀s t,EqS s t→K s→K t) (kp:Bool) (i d:Nat)
    (b:aAny P L rg K fuel (listed.setIfInBounds i true) ⟨(d,v)::env,O,vw,n,m⟩) (hi:rg.toList.drop i=oi::rest:=by rfl) (hd:oi.dst=some d:=by rfl) (hf:Region.freeG L kp rg listed i=true:=by kernel_rfl) (hr:(Region.ready .any rg listed).contains i=true:=by kernel_rfl)
    (hp:PureH P L rg kp oi d v ⟨env,O,vw,n,m⟩:=by
      intro t hn gx ho K' k';dsimp only at hn;refine .inl ?_;simp (disch:=first | decide | rfl) only [gx,zE,aStepM,optable,Nat.reduceEqDiff,reduceIte,Nat.reduceLT,implies_true,forall_const,reduceCtorEq,V.ofValue,V.ofScalar,V.un,V.gd,aExec,aop,contentL,Value.oneCell',List.all_cons,List.all_nil,Bool.and_self,‹Tys _›.h,‹Fc _›.h];repeat (refine andA ?_)
      exact k'):aAny P L rg K (fuel+1) listed ⟨env,O,vw,n,m⟩:=aAny_take hK kp i d hi hd hf hr ⟨v,hp,b⟩
theorem zdgMove {P:Program} {L:Lend} {rg:Array Oper} {K:St→Prop} {fuel:Nat} {listed:Array Bool} {env:List (Nat×V)} {O:List Blk} {vw:Bool} {n m:Nat} {oi:Oper} {rest:List Oper} {v:V} (hK:∀s t,EqS s t→K s→K t) (kp:Bool) (i d:Nat)
    (b:aAny P L rg K fuel (listed.setIfInBounds i true) ⟨(d,v)::env,O,vw,n,m⟩) (hi:rg.toList.drop i=oi::rest:=by rfl) (hd:oi.dst=some d:=by rfl) (hf:Region.freeG L kp rg listed i=true:=by kernel_rfl) (hr:(Region.ready .any rg listed).contains i=true:=by kernel_rfl)
    (hp : PureH P L rg kp oi d v ⟨env,O,vw,n,m⟩:=by
      intro t hn gx ho K' k';dsimp only at hn;first
      | refine .inr (.inl ⟨?_,_,_,false,rfl,?_,nofun,fun _=>⟨.any,k'⟩⟩)
        · simp only [hn,dst_some,Nat.reduceLT]
        · first | rfl | (simp (disch:=decide) only [gx,zV,guardV,Nat.reduceEqDiff,reduceIte];done)
      | skip
        refine .inl ?_;simp (disch:=first | decide | rfl) only [gx,zE,zG,aStepM,optable,Nat.reduceEqDiff,reduceIte,Nat.reduceLT,implies_true,forall_const,reduceCtorEq,V.ofValue,V.ofScalar,V.un,V.gd,guardV,V.wrap,aExec,aop,contentL,Value.oneCell',List.all_cons,List.all_nil,Bool.and_self,‹Tys _›.h,‹Fc _›.h];repeat (refine andA ?_)
        exact k'):aAny P L rg K (fuel+1) listed ⟨env,O,vw,n,m⟩:=aAny_take hK kp i d hi hd hf hr ⟨v,hp,b⟩
theorem zdPick {P:Program} {L:Lend} {rg:Array Oper} {K:St→Prop} {fuel:Nat} {listed:Array Bool} {env:List (Nat×V)} {O:List Blk} {vw:Bool} {n m:Nat} {oi:Oper} {rest:List Oper} {v:V} (hK:∀s t,EqS s t→K s→K t) (kp:Bool) (i d:Nat)
    (b:aAny P L rg K fuel (listed.setIfInBounds i true) ⟨(d,v)::env,O,vw,n,m⟩) (hi:rg.toList.drop i=oi::rest:=by rfl) (hd:oi.dst=some d:=by rfl) (hf:Region.freeG L kp rg listed i=true:=by kernel_rfl) (hr:(Region.ready .any rg listed).contains i=true:=by kernel_rfl)
    (hp:PureH P L rg kp oi d v ⟨env,O,vw,n,m⟩:=by
      intro t hn gx ho K' k';dsimp only at hn;refine .inl ?_;simp (disch:=first | decide | rfl) only [gx,zE,zP,aStepM,optable,Nat.reduceEqDiff,reduceIte,Nat.reduceLT,implies_true,forall_const,reduceCtorEq,V.ofValue,V.ofScalar,V.un,V.gd,aExec,aop,pickV,contentL,Value.oneCell',List.all_cons,List.all_nil,Bool.and_self,‹Tys _›.h,‹Fc _›.h];repeat (refine andA ?_)
      exact k'):aAny P L rg K (fuel+1) listed ⟨env,O,vw,n,m⟩:=aAny_take hK kp i d hi hd hf hr ⟨v,hp,b⟩
theorem zdgPick {P:Program} {L:Lend} {rg:Array Oper} {K:St→Prop} {fuel:Nat} {listed:Array Bool} {env:List (Nat×V)} {O:List Blk} {vw:Bool} {n m:Nat} {oi:Oper} {rest:List Oper} {v:V} (hK:∀s t,EqS s t→K s→K t) (kp:Bool) (i d:Nat)
    (b:aAny P L rg K fuel (listed.setIfInBounds i true) ⟨(d,v)::env,O,vw,n,m⟩) (hi:rg.toList.drop i=oi::rest:=by rfl) (hd:oi.dst=some d:=by rfl) (hf:Region.freeG L kp rg listed i=true:=by kernel_rfl) (hr:(Region.ready .any rg listed).contains i=true:=by kernel_rfl)
    (hp : PureH P L rg kp oi d v ⟨env,O,vw,n,m⟩:=by
      intro t hn gx ho K' k';dsimp only at hn;first
      | refine .inr (.inl ⟨?_,_,_,false,rfl,?_,nofun,fun _=>⟨.any,k'⟩⟩)
        · simp only [hn,dst_some,Nat.reduceLT]
        · first | rfl | (simp (disch:=decide) only [gx,zV,guardV,Nat.reduceEqDiff,reduceIte];done)
      | skip
        refine .inl ?_;simp (disch:=first | decide | rfl) only [gx,zE,zP,zG,aStepM,optable,Nat.reduceEqDiff,reduceIte,Nat.reduceLT,implies_true,forall_const,reduceCtorEq,V.ofValue,V.ofScalar,V.un,V.gd,guardV,V.wrap,aExec,aop,pickV,contentL,Value.oneCell',List.all_cons,List.all_nil,Bool.and_self,‹Tys _›.h,‹Fc _›.h];repeat (refine andA ?_)
        exact k'):aAny P L rg K (fuel+1) listed ⟨env,O,vw,n,m⟩:=aAny_take hK kp i d hi hd hf hr ⟨v,hp,b⟩
theorem zdLoad {P:Program} {L:Lend} {rg:Array Oper} {K:St→Prop} {fuel:Nat} {listed:Array Bool} {env:List (Nat×V)} {O:List Blk} {vw:Bool} {n m:Nat} {oi:Oper} {rest:List Oper} {v:V} (hK:∀s t,EqS s t→K s→K t) (kp:Bool) (i d:Nat)
    (b:aAny P L rg K fuel (listed.setIfInBounds i true) ⟨(d,v)::env,O,vw,n,m⟩) (hi:rg.toList.drop i=oi::rest:=by rfl) (hd:oi.dst=some d:=by rfl) (hf:Region.freeG L kp rg listed i=true:=by kernel_rfl) (hr:(Region.ready .any rg listed).contains i=true:=by kernel_rfl)
    (hp:PureH P L rg kp oi d v ⟨env,O,vw,n,m⟩:=by
      intro t hn gx ho K' k';dsimp only at hn;first | have r0:=row_all (ho rfl) 0 rfl | have r0:=True.intro
      first | have r1:=row_all (ho rfl) 1 rfl | have r1:=True.intro
      first | have r2:=row_all (ho rfl) 2 rfl | have r2:=True.intro
      first | have r3:=row_all (ho rfl) 3 rfl | have r3:=True.intro
      first | have r4:=row_all (ho rfl) 4 rfl | have r4:=True.intro
      first | have r5:=row_all (ho rfl) 5 rfl | have r5:=True.intro
      refine .inl ?_;simp (disch:=first | decide | rfl) only [gx,r0,r1,r2,r3,r4,r5,zE,zL,zO,zN,aStepM,optable,Nat.reduceEqDiff,reduceIte,Nat.reduceLT,implies_true,forall_const,reduceCtorEq,V.ofValue,V.ofScalar,V.un,V.gd,aExec,aop,aLoad,row_mk,Blk.row,PartOK,Go.Vm.part,V.cells,V.noSl,V.noRef,Nat.reduceAdd,Nat.reduceLeDiff,Nat.reduceMul,contentL,Value.oneCell',List.all_cons,List.all_nil,‹Tys _›.h,‹Fc _›.h];repeat (refine andA ?_)
      exact k'):aAny P L rg K (fuel+1) listed ⟨env,O,vw,n,m⟩:=aAny_take hK kp i d hi hd hf hr ⟨v,hp,b⟩
theorem zdLoadX {P:Program} {L:Lend} {rg:Array Oper} {K:St→Prop} {fuel:Nat} {listed:Array Bool} {env:List (Nat×V)} {O:List Blk} {vw:Bool} {n m:Nat} {oi:Oper} {rest:List Oper} {v:V} (hK:∀s t,EqS s t→K s→K t) (kp:Bool) (i d:Nat)
    (b:aAny P L rg K fuel (listed.setIfInBounds i true) ⟨(d,v)::env,O,vw,n,m⟩) (hi:rg.toList.drop i=oi::rest:=by rfl) (hd:oi.dst=some d:=by rfl) (hf:Region.freeG L kp rg listed i=true:=by kernel_rfl) (hr:(Region.ready .any rg listed).contains i=true:=by kernel_rfl)
    (hp:PureH P L rg kp oi d v ⟨env,O,vw,n,m⟩:=by
      intro t hn gx ho K' k';dsimp only at hn;first | have r0:=row_all (ho rfl) 0 rfl | have r0:=True.intro
      first | have r1:=row_all (ho rfl) 1 rfl | have r1:=True.intro
      first | have r2:=row_all (ho rfl) 2 rfl | have r2:=True.intro
      first | have r3:=row_all (ho rfl) 3 rfl | have r3:=True.intro
      first | have r4:=row_all (ho rfl) 4 rfl | have r4:=True.intro
      first | have r5:=row_all (ho rfl) 5 rfl | have r5:=True.intro
      first | have r6:=row_all (ho rfl) 6 rfl | have r6:=True.intro
      first | have r7:=row_all (ho rfl) 7 rfl | have r7:=True.intro
      first | have r8:=row_all (ho rfl) 8 rfl | have r8:=True.intro
      first | have r9:=row_all (ho rfl) 9 rfl | have r9:=True.intro
      first | have r10:=row_all (ho rfl) 10 rfl | have r10:=True.intro
      first | have r11:=row_all (ho rfl) 11 rfl | have r11:=True.intro
      first | have r12:=row_all (ho rfl) 12 rfl | have r12:=True.intro
      first | have r13:=row_all (ho rfl) 13 rfl | have r13:=True.intro
      first | have r14:=row_all (ho rfl) 14 rfl | have r14:=True.intro
      first | have r15:=row_all (ho rfl) 15 rfl | have r15:=True.intro
      first | have r16:=row_all (ho rfl) 16 rfl | have r16:=True.intro
      first | have r17:=row_all (ho rfl) 17 rfl | have r17:=True.intro
      first | have r18:=row_all (ho rfl) 18 rfl | have r18:=True.intro
      first | have r19:=row_all (ho rfl) 19 rfl | have r19:=True.intro
      first | have r20:=row_all (ho rfl) 20 rfl | have r20:=True.intro
      first | have r21:=row_all (ho rfl) 21 rfl | have r21:=True.intro
      first | have r22:=row_all (ho rfl) 22 rfl | have r22:=True.intro
      first | have r23:=row_all (ho rfl) 23 rfl | have r23:=True.intro
      refine .inl ?_;simp (disch:=first | decide | rfl) only [gx,r0,r1,r2,r3,r4,r5,zE,zL,zO,zN,r6,r7,r8,r9,r10,r11,r12,r13,r14,r15,r16,r17,r18,r19,r20,r21,r22,r23,aStepM,optable,Nat.reduceEqDiff,reduceIte,Nat.reduceLT,implies_true,forall_const,reduceCtorEq,V.ofValue,V.ofScalar,V.un,V.gd,aExec,aop,aLoad,row_mk,Blk.row,PartOK,Go.Vm.part,V.cells,V.noSl,V.noRef,Nat.reduceAdd,Nat.reduceLeDiff,Nat.reduceMul,contentL,Value.oneCell',List.all_cons,List.all_nil,‹Tys _›.h,‹Fc _›.h];repeat (refine andA ?_)
      exact k'):aAny P L rg K (fuel+1) listed ⟨env,O,vw,n,m⟩:=aAny_take hK kp i d hi hd hf hr ⟨v,hp,b⟩
theorem zdgLoad {P:Program} {L:Lend} {rg:Array Oper} {K:St→Prop} {fuel:Nat} {listed:Array Bool} {env:List (Nat×V)} {O:List Blk} {vw:Bool} {n m:Nat} {oi:Oper} {rest:List Oper} {v:V} (hK:∀s t,EqS s t→K s→K t) (kp:Bool) (i d:Nat)
    (b:aAny P L rg K fuel (listed.setIfInBounds i true) ⟨(d,v)::env,O,vw,n,m⟩) (hi:rg.toList.drop i=oi::rest:=by rfl) (hd:oi.dst=some d:=by rfl) (hf:Region.freeG L kp rg listed i=true:=by kernel_rfl) (hr:(Region.ready .any rg listed).contains i=true:=by kernel_rfl)
    (hp : PureH P L rg kp oi d v ⟨env,O,vw,n,m⟩:=by
      intro t hn gx ho K' k';dsimp only at hn;first | have r0:=row_all (ho rfl) 0 rfl | have r0:=True.intro
      first | have r1:=row_all (ho rfl) 1 rfl | have r1:=True.intro
      first | have r2:=row_all (ho rfl) 2 rfl | have r2:=True.intro
      first | have r3:=row_all (ho rfl) 3 rfl | have r3:=True.intro
      first | have r4:=row_all (ho rfl) 4 rfl | have r4:=True.intro
      first | have r5:=row_all (ho rfl) 5 rfl | have r5:=True.intro
      first
      | refine .inr (.inl ⟨?_,_,_,false,rfl,?_,nofun,fun _=>⟨.any,k'⟩⟩)
        · simp only [hn,dst_some,Nat.reduceLT]
        · first | rfl | (simp (disch:=decide) only [gx,zV,guardV,Nat.reduceEqDiff,reduceIte];done)
      | skip
        refine .inl ?_;simp (disch:=first | decide | rfl) only [gx,r0,r1,r2,r3,r4,r5,zE,zL,zO,zN,aStepM,optable,Nat.reduceEqDiff,reduceIte,Nat.reduceLT,implies_true,forall_const,reduceCtorEq,V.ofValue,V.ofScalar,V.un,V.gd,guardV,V.wrap,aExec,aop,aLoad,row_mk,Blk.row,PartOK,Go.Vm.part,V.cells,V.noSl,V.noRef,Nat.reduceAdd,Nat.reduceLeDiff,Nat.reduceMul,contentL,Value.oneCell',List.all_cons,List.all_nil,‹Tys _›.h,‹Fc _›.h];repeat (refine andA ?_)
        exact k'):aAny P L rg K (fuel+1) listed ⟨env,O,vw,n,m⟩:=aAny_take hK kp i d hi hd hf hr ⟨v,hp,b⟩
theorem zdgLoadX {P:Program} {L:Lend} {rg:Array Oper} {K:St→Prop} {fuel:Nat} {listed:Array Bool} {env:List (Nat×V)} {O:List Blk} {vw:Bool} {n m:Nat} {oi:Oper} {rest:List Oper} {v:V} (hK:∀s t,EqS s t→K s→K t) (kp:Bool) (i d:Nat)
    (b:aAny P L rg K fuel (listed.setIfInBounds i true) ⟨(d,v)::env,O,vw,n,m⟩) (hi:rg.toList.drop i=oi::rest:=by rfl) (hd:oi.dst=some d:=by rfl) (hf:Region.freeG L kp rg listed i=true:=by kernel_rfl) (hr:(Region.ready .any rg listed).contains i=true:=by kernel_rfl)
    (hp : PureH P L rg kp oi d v ⟨env,O,vw,n,m⟩:=by
      intro t hn gx ho K' k';dsimp only at hn;first | have r0:=row_all (ho rfl) 0 rfl | have r0:=True.intro
      first | have r1:=row_all (ho rfl) 1 rfl | have r1:=True.intro
      first | have r2:=row_all (ho rfl) 2 rfl | have r2:=True.intro
      first | have r3:=row_all (ho rfl) 3 rfl | have r3:=True.intro
      first | have r4:=row_all (ho rfl) 4 rfl | have r4:=True.intro
      first | have r5:=row_all (ho rfl) 5 rfl | have r5:=True.intro
      first | have r6:=row_all (ho rfl) 6 rfl | have r6:=True.intro
      first | have r7:=row_all (ho rfl) 7 rfl | have r7:=True.intro
      first | have r8:=row_all (ho rfl) 8 rfl | have r8:=True.intro
      first | have r9:=row_all (ho rfl) 9 rfl | have r9:=True.intro
      first | have r10:=row_all (ho rfl) 10 rfl | have r10:=True.intro
      first | have r11:=row_all (ho rfl) 11 rfl | have r11:=True.intro
      first | have r12:=row_all (ho rfl) 12 rfl | have r12:=True.intro
      first | have r13:=row_all (ho rfl) 13 rfl | have r13:=True.intro
      first | have r14:=row_all (ho rfl) 14 rfl | have r14:=True.intro
      first | have r15:=row_all (ho rfl) 15 rfl | have r15:=True.intro
      first | have r16:=row_all (ho rfl) 16 rfl | have r16:=True.intro
      first | have r17:=row_all (ho rfl) 17 rfl | have r17:=True.intro
      first | have r18:=row_all (ho rfl) 18 rfl | have r18:=True.intro
      first | have r19:=row_all (ho rfl) 19 rfl | have r19:=True.intro
      first | have r20:=row_all (ho rfl) 20 rfl | have r20:=True.intro
      first | have r21:=row_all (ho rfl) 21 rfl | have r21:=True.intro
      first | have r22:=row_all (ho rfl) 22 rfl | have r22:=True.intro
      first | have r23:=row_all (ho rfl) 23 rfl | have r23:=True.intro
      first
      | refine .inr (.inl ⟨?_,_,_,false,rfl,?_,nofun,fun _=>⟨.any,k'⟩⟩)
        · simp only [hn,dst_some,Nat.reduceLT]
        · first | rfl | (simp (disch:=decide) only [gx,zV,guardV,Nat.reduceEqDiff,reduceIte];done)
      | skip
        refine .inl ?_;simp (disch:=first | decide | rfl) only [gx,r0,r1,r2,r3,r4,r5,zE,zL,zO,zN,r6,r7,r8,r9,r10,r11,r12,r13,r14,r15,r16,r17,r18,r19,r20,r21,r22,r23,aStepM,optable,Nat.reduceEqDiff,reduceIte,Nat.reduceLT,implies_true,forall_const,reduceCtorEq,V.ofValue,V.ofScalar,V.un,V.gd,guardV,V.wrap,aExec,aop,aLoad,row_mk,Blk.row,PartOK,Go.Vm.part,V.cells,V.noSl,V.noRef,Nat.reduceAdd,Nat.reduceLeDiff,Nat.reduceMul,contentL,Value.oneCell',List.all_cons,List.all_nil,‹Tys _›.h,‹Fc _›.h];repeat (refine andA ?_)
        exact k'):aAny P L rg K (fuel+1) listed ⟨env,O,vw,n,m⟩:=aAny_take hK kp i d hi hd hf hr ⟨v,hp,b⟩
theorem zdNilCheck {P:Program} {L:Lend} {rg:Array Oper} {K:St→Prop} {fuel:Nat} {listed:Array Bool} {env:List (Nat×V)} {O:List Blk} {vw:Bool} {n m:Nat} {oi:Oper} {rest:List Oper} {v:V} (hK:∀s t,EqS s t→K s→K t) (kp:Bool) (i d:Nat)
    (b:aAny P L rg K fuel (listed.setIfInBounds i true) ⟨(d,v)::env,O,vw,n,m⟩) (hi:rg.toList.drop i=oi::rest:=by rfl) (hd:oi.dst=some d:=by rfl) (hf:Region.freeG L kp rg listed i=true:=by kernel_rfl) (hr:(Region.ready .any rg listed).contains i=true:=by kernel_rfl)
    (hp:PureH P L rg kp oi d v ⟨env,O,vw,n,m⟩:=by
      intro t hn gx ho K' k';dsimp only at hn;refine .inl ?_;simp (disch:=first | decide | rfl) only [gx,zE,aStepM,optable,Nat.reduceEqDiff,reduceIte,Nat.reduceLT,implies_true,forall_const,reduceCtorEq,V.ofValue,V.ofScalar,V.un,V.gd,aExec,aop,contentL,Value.oneCell',List.all_cons,List.all_nil,Bool.and_self,‹Tys _›.h,‹Fc _›.h];repeat (refine andA ?_)
      exact k'):aAny P L rg K (fuel+1) listed ⟨env,O,vw,n,m⟩:=aAny_take hK kp i d hi hd hf hr ⟨v,hp,b⟩
theorem zdgNilCheck {P:Program} {L:Lend} {rg:Array Oper} {K:St→Prop} {fuel:Nat} {listed:Array Bool} {env:List (Nat×V)} {O:List Blk} {vw:Bool} {n m:Nat} {oi:Oper} {rest:List Oper} {v:V} (hK:∀s t,EqS s t→K s→K t) (kp:Bool) (i d:Nat)
    (b:aAny P L rg K fuel (listed.setIfInBounds i true) ⟨(d,v)::env,O,vw,n,m⟩) (hi:rg.toList.drop i=oi::rest:=by rfl) (hd:oi.dst=some d:=by rfl) (hf:Region.freeG L kp rg listed i=true:=by kernel_rfl) (hr:(Region.ready .any rg listed).contains i=true:=by kernel_rfl)
    (hp : PureH P L rg kp oi d v ⟨env,O,vw,n,m⟩:=by
      intro t hn gx ho K' k';dsimp only at hn;first
      | refine .inr (.inl ⟨?_,_,_,false,rfl,?_,nofun,fun _=>⟨.any,k'⟩⟩)
        · simp only [hn,dst_some,Nat.reduceLT]
        · first | rfl | (simp (disch:=decide) only [gx,zV,guardV,Nat.reduceEqDiff,reduceIte];done)
      | skip
        refine .inl ?_;simp (disch:=first | decide | rfl) only [gx,zE,zG,aStepM,optable,Nat.reduceEqDiff,reduceIte,Nat.reduceLT,implies_true,forall_const,reduceCtorEq,V.ofValue,V.ofScalar,V.un,V.gd,guardV,V.wrap,aExec,aop,contentL,Value.oneCell',List.all_cons,List.all_nil,Bool.and_self,‹Tys _›.h,‹Fc _›.h];repeat (refine andA ?_)
        exact k'):aAny P L rg K (fuel+1) listed ⟨env,O,vw,n,m⟩:=aAny_take hK kp i d hi hd hf hr ⟨v,hp,b⟩
theorem zdBinOp {P:Program} {L:Lend} {rg:Array Oper} {K:St→Prop} {fuel:Nat} {listed:Array Bool} {env:List (Nat×V)} {O:List Blk} {vw:Bool} {n m:Nat} {oi:Oper} {rest:List Oper} {v:V} (hK:∀s t,EqS s t→K s→K t) (kp:Bool) (i d:Nat)
    (b:aAny P L rg K fuel (listed.setIfInBounds i true) ⟨(d,v)::env,O,vw,n,m⟩) (hi:rg.toList.drop i=oi::rest:=by rfl) (hd:oi.dst=some d:=by rfl) (hf:Region.freeG L kp rg listed i=true:=by kernel_rfl) (hr:(Region.ready .any rg listed).contains i=true:=by kernel_rfl)
    (hp:PureH P L rg kp oi d v ⟨env,O,vw,n,m⟩:=by
      intro t hn gx ho K' k';dsimp only at hn;refine .inl ?_;simp (disch:=first | decide | rfl) only [gx,zE,aStepM,optable,Nat.reduceEqDiff,reduceIte,Nat.reduceLT,implies_true,forall_const,reduceCtorEq,V.ofValue,V.ofScalar,V.un,V.gd,aExec,aop,aBin,isNil,or_true,true_or,or_false,false_or,EK.fitsL,EK.fits,cellsEq,cellEq,contentL,Value.oneCell',List.all_cons,List.all_nil,Bool.and_self,‹Tys _›.h,‹Fc _›.h];repeat (refine andA ?_)
      exact k'):aAny P L rg K (fuel+1) listed ⟨env,O,vw,n,m⟩:=aAny_take hK kp i d hi hd hf hr ⟨v,hp,b⟩
theorem zdBinOpW {P:Program} {L:Lend} {rg:Array Oper} {K:St→Prop} {fuel:Nat} {listed:Array Bool} {env:List (Nat×V)} {O:List Blk} {vw:Bool} {n m:Nat} {oi:Oper} {rest:List Oper} {v:V} (hK:∀s t,EqS s t→K s→K t) (kp:Bool) (i d:Nat)
    (b:aAny P L rg K fuel (listed.setIfInBounds i true) ⟨(d,v)::env,O,vw,n,m⟩) (hi:rg.toList.drop i=oi::rest:=by rfl) (hd:oi.dst=some d:=by rfl) (hf:Region.freeG L kp rg listed i=true:=by kernel_rfl) (hr:(Region.ready .any rg listed).contains i=true:=by kernel_rfl)
    (hp:PureH P L rg kp oi d v ⟨env,O,vw,n,m⟩:=by
      intro t hn gx ho K' k';dsimp only at hn;refine .inl ?_;simp (disch:=first | decide | rfl) only [gx,zE,aStepM,optable,Nat.reduceEqDiff,reduceIte,Nat.reduceLT,implies_true,forall_const,reduceCtorEq,V.ofValue,V.ofScalar,V.un,V.gd,aExec,aop,aBin,isNil,or_true,true_or,or_false,false_or,EK.fitsL,EK.fits,cellsEq,cellEq,contentL,Value.oneCell',List.all_cons,List.all_nil,Bool.and_self,‹Tys _›.h,‹Fc _›.h];try simp (disch:=omega) only [wrap64]
      repeat (refine andA ?_)
      exact k'):aAny P L rg K (fuel+1) listed ⟨env,O,vw,n,m⟩:=aAny_take hK kp i d hi hd hf hr ⟨v,hp,b⟩
theorem zdgBinOp {P:Program} {L:Lend} {rg:Array Oper} {K:St→Prop} {fuel:Nat} {listed:Array Bool} {env:List (Nat×V)} {O:List Blk} {vw:Bool} {n m:Nat} {oi:Oper} {rest:List Oper} {v:V} (hK:∀s t,EqS s t→K s→K t) (kp:Bool) (i d:Nat)
    (b:aAny P L rg K fuel (listed.setIfInBounds i true) ⟨(d,v)::env,O,vw,n,m⟩) (hi:rg.toList.drop i=oi::rest:=by rfl) (hd:oi.dst=some d:=by rfl) (hf:Region.freeG L kp rg listed i=true:=by kernel_rfl) (hr:(Region.ready .any rg listed).contains i=true:=by kernel_rfl)
    (hp : PureH P L rg kp oi d v ⟨env,O,vw,n,m⟩:=by
      intro t hn gx ho K' k';dsimp only at hn;first
      | refine .inr (.inl ⟨?_,_,_,false,rfl,?_,nofun,fun _=>⟨.any,k'⟩⟩)
        · simp only [hn,dst_some,Nat.reduceLT]
        · first | rfl | (simp (disch:=decide) only [gx,zV,guardV,Nat.reduceEqDiff,reduceIte];done)
      | skip
        refine .inl ?_;simp (disch:=first | decide | rfl) only [gx,zE,zG,aStepM,optable,Nat.reduceEqDiff,reduceIte,Nat.reduceLT,implies_true,forall_const,reduceCtorEq,V.ofValue,V.ofScalar,V.un,V.gd,guardV,V.wrap,aExec,aop,aBin,isNil,or_true,true_or,or_false,false_or,EK.fitsL,EK.fits,cellsEq,cellEq,contentL,Value.oneCell',List.all_cons,List.all_nil,Bool.and_self,‹Tys _›.h,‹Fc _›.h];repeat (refine andA ?_)
        exact k'):aAny P L rg K (fuel+1) listed ⟨env,O,vw,n,m⟩:=aAny_take hK kp i d hi hd hf hr ⟨v,hp,b⟩
theorem zdgBinOpW {P:Program} {L:Lend} {rg:Array Oper} {K:St→Prop} {fuel:Nat} {listed:Array Bool} {env:List (Nat×V)} {O:List Blk} {vw:Bool} {n m:Nat} {oi:Oper} {rest:List Oper} {v:V} (hK:∀s t,EqS s t→K s→K t) (kp:Bool) (i d:Nat)
    (b:aAny P L rg K fuel (listed.setIfInBounds i true) ⟨(d,v)::env,O,vw,n,m⟩) (hi:rg.toList.drop i=oi::rest:=by rfl) (hd:oi.dst=some d:=by rfl) (hf:Region.freeG L kp rg listed i=true:=by kernel_rfl) (hr:(Region.ready .any rg listed).contains i=true:=by kernel_rfl)
    (hp : PureH P L rg kp oi d v ⟨env,O,vw,n,m⟩:=by
      intro t hn gx ho K' k';dsimp only at hn;first
      | refine .inr (.inl ⟨?_,_,_,false,rfl,?_,nofun,fun _=>⟨.any,k'⟩⟩)
        · simp only [hn,dst_some,Nat.reduceLT]
        · first | rfl | (simp (disch:=decide) only [gx,zV,guardV,Nat.reduceEqDiff,reduceIte];done)
      | skip
        refine .inl ?_;simp (disch:=first | decide | rfl) only [gx,zE,zG,aStepM,optable,Nat.reduceEqDiff,reduceIte,Nat.reduceLT,implies_true,forall_const,reduceCtorEq,V.ofValue,V.ofScalar,V.un,V.gd,guardV,V.wrap,aExec,aop,aBin,isNil,or_true,true_or,or_false,false_or,EK.fitsL,EK.fits,cellsEq,cellEq,contentL,Value.oneCell',List.all_cons,List.all_nil,Bool.and_self,‹Tys _›.h,‹Fc _›.h];try simp (disch:=omega) only [wrap64]
        repeat (refine andA ?_)
        exact k'):aAny P L rg K (fuel+1) listed ⟨env,O,vw,n,m⟩:=aAny_take hK kp i d hi hd hf hr ⟨v,hp,b⟩
theorem zdUnOp {P:Program} {L:Lend} {rg:Array Oper} {K:St→Prop} {fuel:Nat} {listed:Array Bool} {env:List (Nat×V)} {O:List Blk} {vw:Bool} {n m:Nat} {oi:Oper} {rest:List Oper} {v:V} (hK:∀s t,EqS s t→K s→K t) (kp:Bool) (i d:Nat)
    (b:aAny P L rg K fuel (listed.setIfInBounds i true) ⟨(d,v)::env,O,vw,n,m⟩) (hi:rg.toList.drop i=oi::rest:=by rfl) (hd:oi.dst=some d:=by rfl) (hf:Region.freeG L kp rg listed i=true:=by kernel_rfl) (hr:(Region.ready .any rg listed).contains i=true:=by kernel_rfl)
    (hp:PureH P L rg kp oi d v ⟨env,O,vw,n,m⟩:=by
      intro t hn gx ho K' k';dsimp only at hn;refine .inl ?_;simp (disch:=first | decide | rfl) only [gx,zE,aStepM,optable,Nat.reduceEqDiff,reduceIte,Nat.reduceLT,implies_true,forall_const,reduceCtorEq,V.ofValue,V.ofScalar,V.un,V.gd,aExec,aop,aUn,contentL,Value.oneCell',List.all_cons,List.all_nil,Bool.and_self,‹Tys _›.h,‹Fc _›.h];repeat (refine andA ?_)
      exact k'):aAny P L rg K (fuel+1) listed ⟨env,O,vw,n,m⟩:=aAny_take hK kp i d hi hd hf hr ⟨v,hp,b⟩
theorem zdgUnOp {P:Program} {L:Lend} {rg:Array Oper} {K:St→Prop} {fuel:Nat} {listed:Array Bool} {env:List (Nat×V)} {O:List Blk} {vw:Bool} {n m:Nat} {oi:Oper} {rest:List Oper} {v:V} (hK:∀s t,EqS s t→K s→K t) (kp:Bool) (i d:Nat)
    (b:aAny P L rg K fuel (listed.setIfInBounds i true) ⟨(d,v)::env,O,vw,n,m⟩) (hi:rg.toList.drop i=oi::rest:=by rfl) (hd:oi.dst=some d:=by rfl) (hf:Region.freeG L kp rg listed i=true:=by kernel_rfl) (hr:(Region.ready .any rg listed).contains i=true:=by kernel_rfl)
    (hp : PureH P L rg kp oi d v ⟨env,O,vw,n,m⟩:=by
      intro t hn gx ho K' k';dsimp only at hn;first
      | refine .inr (.inl ⟨?_,_,_,false,rfl,?_,nofun,fun _=>⟨.any,k'⟩⟩)
        · simp only [hn,dst_some,Nat.reduceLT]
        · first | rfl | (simp (disch:=decide) only [gx,zV,guardV,Nat.reduceEqDiff,reduceIte];done)
      | skip
        refine .inl ?_;simp (disch:=first | decide | rfl) only [gx,zE,zG,aStepM,optable,Nat.reduceEqDiff,reduceIte,Nat.reduceLT,implies_true,forall_const,reduceCtorEq,V.ofValue,V.ofScalar,V.un,V.gd,guardV,V.wrap,aExec,aop,aUn,contentL,Value.oneCell',List.all_cons,List.all_nil,Bool.and_self,‹Tys _›.h,‹Fc _›.h];repeat (refine andA ?_)
        exact k'):aAny P L rg K (fuel+1) listed ⟨env,O,vw,n,m⟩:=aAny_take hK kp i d hi hd hf hr ⟨v,hp,b⟩
theorem zdFieldAddr {P:Program} {L:Lend} {rg:Array Oper} {K:St→Prop} {fuel:Nat} {listed:Array Bool} {env:List (Nat×V)} {O:List Blk} {vw:Bool} {n m:Nat} {oi:Oper} {rest:List Oper} {v:V} (hK:∀s t,EqS s t→K s→K t) (kp:Bool) (i d:Nat)
    (b:aAny P L rg K fuel (listed.setIfInBounds i true) ⟨(d,v)::env,O,vw,n,m⟩) (hi:rg.toList.drop i=oi::rest:=by rfl) (hd:oi.dst=some d:=by rfl) (hf:Region.freeG L kp rg listed i=true:=by kernel_rfl) (hr:(Region.ready .any rg listed).contains i=true:=by kernel_rfl)
    (hp:PureH P L rg kp oi d v ⟨env,O,vw,n,m⟩:=by
      intro t hn gx ho K' k';dsimp only at hn;refine .inl ?_;simp (disch:=first | decide | rfl) only [gx,zE,zL,zN,aStepM,optable,Nat.reduceEqDiff,reduceIte,Nat.reduceLT,implies_true,forall_const,reduceCtorEq,V.ofValue,V.ofScalar,V.un,V.gd,aExec,aop,aFieldAddr,Nat.reduceAdd,Nat.reduceLeDiff,Nat.reduceMul,contentL,Value.oneCell',List.all_cons,List.all_nil,Bool.and_self,‹Tys _›.h,‹Fc _›.h];repeat (refine andA ?_)
      exact k'):aAny P L rg K (fuel+1) listed ⟨env,O,vw,n,m⟩:=aAny_take hK kp i d hi hd hf hr ⟨v,hp,b⟩
theorem zdgFieldAddr {P:Program} {L:Lend} {rg:Array Oper} {K:St→Prop} {fuel:Nat} {listed:Array Bool} {env:List (Nat×V)} {O:List Blk} {vw:Bool} {n m:Nat} {oi:Oper} {rest:List Oper} {v:V} (hK:∀s t,EqS s t→K s→K t) (kp:Bool) (i d:Nat)
    (b:aAny P L rg K fuel (listed.setIfInBounds i true) ⟨(d,v)::env,O,vw,n,m⟩) (hi:rg.toList.drop i=oi::rest:=by rfl) (hd:oi.dst=some d:=by rfl) (hf:Region.freeG L kp rg listed i=true:=by kernel_rfl) (hr:(Region.ready .any rg listed).contains i=true:=by kernel_rfl)
    (hp : PureH P L rg kp oi d v ⟨env,O,vw,n,m⟩:=by
      intro t hn gx ho K' k';dsimp only at hn;first
      | refine .inr (.inl ⟨?_,_,_,false,rfl,?_,nofun,fun _=>⟨.any,k'⟩⟩)
        · simp only [hn,dst_some,Nat.reduceLT]
        · first | rfl | (simp (disch:=decide) only [gx,zV,guardV,Nat.reduceEqDiff,reduceIte];done)
      | skip
        refine .inl ?_;simp (disch:=first | decide | rfl) only [gx,zE,zL,zN,aStepM,optable,Nat.reduceEqDiff,reduceIte,Nat.reduceLT,implies_true,forall_const,reduceCtorEq,V.ofValue,V.ofScalar,V.un,V.gd,guardV,V.wrap,aExec,aop,aFieldAddr,Nat.reduceAdd,Nat.reduceLeDiff,Nat.reduceMul,contentL,Value.oneCell',List.all_cons,List.all_nil,Bool.and_self,‹Tys _›.h,‹Fc _›.h];repeat (refine andA ?_)
        exact k'):aAny P L rg K (fuel+1) listed ⟨env,O,vw,n,m⟩:=aAny_take hK kp i d hi hd hf hr ⟨v,hp,b⟩
theorem zdIndexAddr {P:Program} {L:Lend} {rg:Array Oper} {K:St→Prop} {fuel:Nat} {listed:Array Bool} {env:List (Nat×V)} {O:List Blk} {vw:Bool} {n m:Nat} {oi:Oper} {rest:List Oper} {v:V} (hK:∀s t,EqS s t→K s→K t) (kp:Bool) (i d:Nat)
    (b:aAny P L rg K fuel (listed.setIfInBounds i true) ⟨(d,v)::env,O,vw,n,m⟩) (hi:rg.toList.drop i=oi::rest:=by rfl) (hd:oi.dst=some d:=by rfl) (hf:Region.freeG L kp rg listed i=true:=by kernel_rfl) (hr:(Region.ready .any rg listed).contains i=true:=by kernel_rfl)
    (hp:PureH P L rg kp oi d v ⟨env,O,vw,n,m⟩:=by
      intro t hn gx ho K' k';dsimp only at hn;first | have r0:=row_all (ho rfl) 0 rfl | have r0:=True.intro
      first | have r1:=row_all (ho rfl) 1 rfl | have r1:=True.intro
      first | have r2:=row_all (ho rfl) 2 rfl | have r2:=True.intro
      first | have r3:=row_all (ho rfl) 3 rfl | have r3:=True.intro
      first | have r4:=row_all (ho rfl) 4 rfl | have r4:=True.intro
      first | have r5:=row_all (ho rfl) 5 rfl | have r5:=True.intro
      refine .inl ?_;simp (disch:=first | decide | rfl) only [gx,r0,r1,r2,r3,r4,r5,zE,zL,zN,aStepM,optable,Nat.reduceEqDiff,reduceIte,Nat.reduceLT,implies_true,forall_const,reduceCtorEq,V.ofValue,V.ofScalar,V.un,V.gd,aExec,aop,List.mem_cons,List.not_mem_nil,or_false,forall_eq_or_imp,forall_eq,aIndexAddr,row_mk,Blk.row,Go.Vm.V.cells,List.forall_mem_map,List.length_map,Int.toNat_natCast,Int.reduceToNat,TypeDesc.slice.injEq,Nat.reduceAdd,Nat.reduceLeDiff,Nat.reduceMul,contentL,Value.oneCell',List.all_cons,List.all_nil,Bool.and_self,‹Tys _›.h,‹Fc _›.h];repeat (refine andA ?_)
      exact k'):aAny P L rg K (fuel+1) listed ⟨env,O,vw,n,m⟩:=aAny_take hK kp i d hi hd hf hr ⟨v,hp,b⟩
theorem zdgIndexAddr {P:Program} {L:Lend} {rg:Array Oper} {K:St→Prop} {fuel:Nat} {listed:Array Bool} {env:List (Nat×V)} {O:List Blk} {vw:Bool} {n m:Nat} {oi:Oper} {rest:List Oper} {v:V} (hK:∀s t,EqS s t→K s→K t) (kp:Bool) (i d:Nat)
    (b:aAny P L rg K fuel (listed.setIfInBounds i true) ⟨(d,v)::env,O,vw,n,m⟩) (hi:rg.toList.drop i=oi::rest:=by rfl) (hd:oi.dst=some d:=by rfl) (hf:Region.freeG L kp rg listed i=true:=by kernel_rfl) (hr:(Region.ready .any rg listed).contains i=true:=by kernel_rfl)
    (hp : PureH P L rg kp oi d v ⟨env,O,vw,n,m⟩:=by
      intro t hn gx ho K' k';dsimp only at hn;first | have r0:=row_all (ho rfl) 0 rfl | have r0:=True.intro
      first | have r1:=row_all (ho rfl) 1 rfl | have r1:=True.intro
      first | have r2:=row_all (ho rfl) 2 rfl | have r2:=True.intro
      first | have r3:=row_all (ho rfl) 3 rfl | have r3:=True.intro
      first | have r4:=row_all (ho rfl) 4 rfl | have r4:=True.intro
      first | have r5:=row_all (ho rfl) 5 rfl | have r5:=True.intro
      first
      | refine .inr (.inl ⟨?_,_,_,false,rfl,?_,nofun,fun _=>⟨.any,k'⟩⟩)
        · simp only [hn,dst_some,Nat.reduceLT]
        · first | rfl | (simp (disch:=decide) only [gx,zV,guardV,Nat.reduceEqDiff,reduceIte];done)
      | skip
        refine .inl ?_;simp (disch:=first | decide | rfl) only [gx,r0,r1,r2,r3,r4,r5,zE,zL,zN,aStepM,optable,Nat.reduceEqDiff,reduceIte,Nat.reduceLT,implies_true,forall_const,reduceCtorEq,V.ofValue,V.ofScalar,V.un,V.gd,guardV,V.wrap,aExec,aop,List.mem_cons,List.not_mem_nil,or_false,forall_eq_or_imp,forall_eq,aIndexAddr,row_mk,Blk.row,Go.Vm.V.cells,List.forall_mem_map,List.length_map,Int.toNat_natCast,Int.reduceToNat,TypeDesc.slice.injEq,Nat.reduceAdd,Nat.reduceLeDiff,Nat.reduceMul,contentL,Value.oneCell',List.all_cons,List.all_nil,Bool.and_self,‹Tys _›.h,‹Fc _›.h];repeat (refine andA ?_)
        exact k'):aAny P L rg K (fuel+1) listed ⟨env,O,vw,n,m⟩:=aAny_take hK kp i d hi hd hf hr ⟨v,hp,b⟩
theorem zdIndex {P:Program} {L:Lend} {rg:Array Oper} {K:St→Prop} {fuel:Nat} {listed:Array Bool} {env:List (Nat×V)} {O:List Blk} {vw:Bool} {n m:Nat} {oi:Oper} {rest:List Oper} {v:V} (hK:∀s t,EqS s t→K s→K t) (kp:Bool) (i d:Nat)
    (b:aAny P L rg K fuel (listed.setIfInBounds i true) ⟨(d,v)::env,O,vw,n,m⟩) (hi:rg.toList.drop i=oi::rest:=by rfl) (hd:oi.dst=some d:=by rfl) (hf:Region.freeG L kp rg listed i=true:=by kernel_rfl) (hr:(Region.ready .any rg listed).contains i=true:=by kernel_rfl)
    (hp:PureH P L rg kp oi d v ⟨env,O,vw,n,m⟩:=by
      intro t hn gx ho K' k';dsimp only at hn;refine .inl ?_;simp (disch:=first | decide | rfl) only [gx,zE,zL,zN,aStepM,optable,Nat.reduceEqDiff,reduceIte,Nat.reduceLT,implies_true,forall_const,reduceCtorEq,V.ofValue,V.ofScalar,V.un,V.gd,aExec,aop,aIndex,Int.toNat_natCast,Int.reduceToNat,Nat.reduceAdd,Nat.reduceLeDiff,Nat.reduceMul,contentL,Value.oneCell',List.all_cons,List.all_nil,Bool.and_self,‹Tys _›.h,‹Fc _›.h];repeat (refine andA ?_)
      exact k'):aAny P L rg K (fuel+1) listed ⟨env,O,vw,n,m⟩:=aAny_take hK kp i d hi hd hf hr ⟨v,hp,b⟩
theorem zdgIndex {P:Program} {L:Lend} {rg:Array Oper} {K:St→Prop} {fuel:Nat} {listed:Array Bool} {env:List (Nat×V)} {O:List Blk} {vw:Bool} {n m:Nat} {oi:Oper} {rest:List Oper} {v:V} (hK:∀s t,EqS s t→K s→K t) (kp:Bool) (i d:Nat)
    (b:aAny P L rg K fuel (listed.setIfInBounds i true) ⟨(d,v)::env,O,vw,n,m⟩) (hi:rg.toList.drop i=oi::rest:=by rfl) (hd:oi.dst=some d:=by rfl) (hf:Region.freeG L kp rg listed i=true:=by kernel_rfl) (hr:(Region.ready .any rg listed).contains i=true:=by kernel_rfl)
    (hp : PureH P L rg kp oi d v ⟨env,O,vw,n,m⟩:=by
      intro t hn gx ho K' k';dsimp only at hn;first
      | refine .inr (.inl ⟨?_,_,_,false,rfl,?_,nofun,fun _=>⟨.any,k'⟩⟩)
        · simp only [hn,dst_some,Nat.reduceLT]
        · first | rfl | (simp (disch:=decide) only [gx,zV,guardV,Nat.reduceEqDiff,reduceIte];done)
      | skip
        refine .inl ?_;simp (disch:=first | decide | rfl) only [gx,zE,zL,zN,aStepM,optable,Nat.reduceEqDiff,reduceIte,Nat.reduceLT,implies_true,forall_const,reduceCtorEq,V.ofValue,V.ofScalar,V.un,V.gd,guardV,V.wrap,aExec,aop,aIndex,Int.toNat_natCast,Int.reduceToNat,Nat.reduceAdd,Nat.reduceLeDiff,Nat.reduceMul,contentL,Value.oneCell',List.all_cons,List.all_nil,Bool.and_self,‹Tys _›.h,‹Fc _›.h];repeat (refine andA ?_)
        exact k'):aAny P L rg K (fuel+1) listed ⟨env,O,vw,n,m⟩:=aAny_take hK kp i d hi hd hf hr ⟨v,hp,b⟩
theorem zdExtract {P:Program} {L:Lend} {rg:Array Oper} {K:St→Prop} {fuel:Nat} {listed:Array Bool} {env:List (Nat×V)} {O:List Blk} {vw:Bool} {n m:Nat} {oi:Oper} {rest:List Oper} {v:V} (hK:∀s t,EqS s t→K s→K t) (kp:Bool) (i d:Nat)
    (b:aAny P L rg K fuel (listed.setIfInBounds i true) ⟨(d,v)::env,O,vw,n,m⟩) (hi:rg.toList.drop i=oi::rest:=by rfl) (hd:oi.dst=some d:=by rfl) (hf:Region.freeG L kp rg listed i=true:=by kernel_rfl) (hr:(Region.ready .any rg listed).contains i=true:=by kernel_rfl)
    (hp:PureH P L rg kp oi d v ⟨env,O,vw,n,m⟩:=by
      intro t hn gx ho K' k';dsimp only at hn;refine .inl ?_;simp (disch:=first | decide | rfl) only [gx,zE,zL,zN,aStepM,optable,Nat.reduceEqDiff,reduceIte,Nat.reduceLT,implies_true,forall_const,reduceCtorEq,V.ofValue,V.ofScalar,V.un,V.gd,aExec,aop,aExtract,Nat.reduceAdd,Nat.reduceLeDiff,Nat.reduceMul,contentL,Value.oneCell',List.all_cons,List.all_nil,Bool.and_self,‹Tys _›.h,‹Fc _›.h];repeat (refine andA ?_)
      exact k'):aAny P L rg K (fuel+1) listed ⟨env,O,vw,n,m⟩:=aAny_take hK kp i d hi hd hf hr ⟨v,hp,b⟩
theorem zdSlice {P:Program} {L:Lend} {rg:Array Oper} {K:St→Prop} {fuel:Nat} {listed:Array Bool} {env:List (Nat×V)} {O:List Blk} {vw:Bool} {n m:Nat} {oi:Oper} {rest:List Oper} {v:V} (hK:∀s t,EqS s t→K s→K t) (kp:Bool) (i d:Nat)
    (b:aAny P L rg K fuel (listed.setIfInBounds i true) ⟨(d,v)::env,O,vw,n,m⟩) (hi:rg.toList.drop i=oi::rest:=by rfl) (hd:oi.dst=some d:=by rfl) (hf:Region.freeG L kp rg listed i=true:=by kernel_rfl) (hr:(Region.ready .any rg listed).contains i=true:=by kernel_rfl)
    (hp:PureH P L rg kp oi d v ⟨env,O,vw,n,m⟩:=by
      intro t hn gx ho K' k';dsimp only at hn;first | have r0:=row_all (ho rfl) 0 rfl | have r0:=True.intro
      first | have r1:=row_all (ho rfl) 1 rfl | have r1:=True.intro
      first | have r2:=row_all (ho rfl) 2 rfl | have r2:=True.intro
      first | have r3:=row_all (ho rfl) 3 rfl | have r3:=True.intro
      first | have r4:=row_all (ho rfl) 4 rfl | have r4:=True.intro
      first | have r5:=row_all (ho rfl) 5 rfl | have r5:=True.intro
      refine .inl ?_;simp (disch:=first | decide | rfl) only [gx,r0,r1,r2,r3,r4,r5,zE,zL,zN,aStepM,optable,Nat.reduceEqDiff,reduceIte,Nat.reduceLT,implies_true,forall_const,reduceCtorEq,V.ofValue,V.ofScalar,V.un,V.gd,aExec,aop,List.set_cons_zero,List.set_cons_succ,aSlice,forall_eq',bound,ElemsOK,Option.map_none,Option.isNone_none,row_mk,Blk.row,TypeDesc.slice.injEq,List.forall_mem_map,List.length_map,Go.Vm.V.cells,Int.toNat_natCast,Int.reduceToNat,←List.map_take,←List.map_drop,List.take_length,Nat.reduceAdd,Nat.reduceLeDiff,Nat.reduceMul,contentL,Value.oneCell',List.all_cons,List.all_nil,Bool.and_self,‹Tys _›.h,‹Fc _›.h];repeat (refine andA ?_)
      exact k'):aAny P L rg K (fuel+1) listed ⟨env,O,vw,n,m⟩:=aAny_take hK kp i d hi hd hf hr ⟨v,hp,b⟩
theorem zdLen {P:Program} {L:Lend} {rg:Array Oper} {K:St→Prop} {fuel:Nat} {listed:Array Bool} {env:List (Nat×V)} {O:List Blk} {vw:Bool} {n m:Nat} {oi:Oper} {rest:List Oper} {v:V} (hK:∀s t,EqS s t→K s→K t) (kp:Bool) (i d:Nat)
    (b:aAny P L rg K fuel (listed.setIfInBounds i true) ⟨(d,v)::env,O,vw,n,m⟩) (hi:rg.toList.drop i=oi::rest:=by rfl) (hd:oi.dst=some d:=by rfl) (hf:Region.freeG L kp rg listed i=true:=by kernel_rfl) (hr:(Region.ready .any rg listed).contains i=true:=by kernel_rfl)
    (hp:PureH P L rg kp oi d v ⟨env,O,vw,n,m⟩:=by
      intro t hn gx ho K' k';dsimp only at hn;first | have r0:=row_all (ho rfl) 0 rfl | have r0:=True.intro
      first | have r1:=row_all (ho rfl) 1 rfl | have r1:=True.intro
      first | have r2:=row_all (ho rfl) 2 rfl | have r2:=True.intro
      first | have r3:=row_all (ho rfl) 3 rfl | have r3:=True.intro
      first | have r4:=row_all (ho rfl) 4 rfl | have r4:=True.intro
      first | have r5:=row_all (ho rfl) 5 rfl | have r5:=True.intro
      refine .inl ?_;simp (disch:=first | decide | rfl) only [gx,r0,r1,r2,r3,r4,r5,zE,zL,zN,aStepM,optable,Nat.reduceEqDiff,reduceIte,Nat.reduceLT,implies_true,forall_const,reduceCtorEq,V.ofValue,V.ofScalar,V.un,V.gd,aExec,aop,List.length_map,aLen,lenOK,row_mk,Blk.row,List.size_toArray,List.getD_eq_getElem?_getD,Array.getD_eq_getD_getElem?,Option.getD_some,Nat.reduceAdd,Nat.reduceLeDiff,Nat.reduceMul,contentL,Value.oneCell',List.all_cons,List.all_nil,Bool.and_self,‹Tys _›.h,‹Fc _›.h];repeat (refine andA ?_)
      exact k'):aAny P L rg K (fuel+1) listed ⟨env,O,vw,n,m⟩:=aAny_take hK kp i d hi hd hf hr ⟨v,hp,b⟩
theorem zdConvert {P:Program} {L:Lend} {rg:Array Oper} {K:St→Prop} {fuel:Nat} {listed:Array Bool} {env:List (Nat×V)} {O:List Blk} {vw:Bool} {n m:Nat} {oi:Oper} {rest:List Oper} {v:V} (hK:∀s t,EqS s t→K s→K t) (kp:Bool) (i d:Nat)
    (b:aAny P L rg K fuel (listed.setIfInBounds i true) ⟨(d,v)::env,O,vw,n,m⟩) (hi:rg.toList.drop i=oi::rest:=by rfl) (hd:oi.dst=some d:=by rfl) (hf:Region.freeG L kp rg listed i=true:=by kernel_rfl) (hr:(Region.ready .any rg listed).contains i=true:=by kernel_rfl)
    (hp:PureH P L rg kp oi d v ⟨env,O,vw,n,m⟩:=by
      intro t hn gx ho K' k';dsimp only at hn;refine .inl ?_;simp (disch:=first | decide | rfl) only [gx,zE,zL,zN,aStepM,optable,Nat.reduceEqDiff,reduceIte,Nat.reduceLT,implies_true,forall_const,reduceCtorEq,V.ofValue,V.ofScalar,V.un,V.gd,aExec,aop,unByte,row_mk,Blk.row,TypeDesc.slice.injEq,Nat.reduceAdd,Nat.reduceLeDiff,Nat.reduceMul,contentL,Value.oneCell',List.all_cons,List.all_nil,Bool.and_self,‹Tys _›.h,‹Fc _›.h];repeat (refine andA ?_)
      exact k'):aAny P L rg K (fuel+1) listed ⟨env,O,vw,n,m⟩:=aAny_take hK kp i d hi hd hf hr ⟨v,hp,b⟩
theorem zdBuild {P:Program} {L:Lend} {rg:Array Oper} {K:St→Prop} {fuel:Nat} {listed:Array Bool} {env:List (Nat×V)} {O:List Blk} {vw:Bool} {n m:Nat} {oi:Oper} {rest:List Oper} {v:V} (hK:∀s t,EqS s t→K s→K t) (kp:Bool) (i d:Nat)
    (b:aAny P L rg K fuel (listed.setIfInBounds i true) ⟨(d,v)::env,O,vw,n,m⟩) (hi:rg.toList.drop i=oi::rest:=by rfl) (hd:oi.dst=some d:=by rfl) (hf:Region.freeG L kp rg listed i=true:=by kernel_rfl) (hr:(Region.ready .any rg listed).contains i=true:=by kernel_rfl)
    (hp:PureH P L rg kp oi d v ⟨env,O,vw,n,m⟩:=by
      intro t hn gx ho K' k';dsimp only at hn;refine .inl ?_;simp (disch:=first | decide | rfl) only [gx,zE,zL,zO,zN,aStepM,optable,Nat.reduceEqDiff,reduceIte,Nat.reduceLT,implies_true,forall_const,reduceCtorEq,V.ofValue,V.ofScalar,V.un,V.gd,aExec,aop,fillV,if_true,Nat.zero_mul,Nat.one_mul,Nat.mul_one,V.isVal,V.cells,List.mem_cons,List.not_mem_nil,or_false,forall_eq_or_imp,forall_eq,Nat.reduceAdd,Nat.reduceLeDiff,Nat.reduceMul,contentL,Value.oneCell',List.all_cons,List.all_nil,‹Tys _›.h,‹Fc _›.h];repeat (refine andA ?_)
      exact k'):aAny P L rg K (fuel+1) listed ⟨env,O,vw,n,m⟩:=aAny_take hK kp i d hi hd hf hr ⟨v,hp,b⟩
theorem zdgBuild {P:Program} {L:Lend} {rg:Array Oper} {K:St→Prop} {fuel:Nat} {listed:Array Bool} {env:List (Nat×V)} {O:List Blk} {vw:Bool} {n m:Nat} {oi:Oper} {rest:List Oper} {v:V} (hK:∀s t,EqS s t→K s→K t) (kp:Bool) (i d:Nat)
    (b:aAny P L rg K fuel (listed.setIfInBounds i true) ⟨(d,v)::env,O,vw,n,m⟩) (hi:rg.toList.drop i=oi::rest:=by rfl) (hd:oi.dst=some d:=by rfl) (hf:Region.freeG L kp rg listed i=true:=by kernel_rfl) (hr:(Region.ready .any rg listed).contains i=true:=by kernel_rfl)
    (hp : PureH P L rg kp oi d v ⟨env,O,vw,n,m⟩:=by
      intro t hn gx ho K' k';dsimp only at hn;first
      | refine .inr (.inl ⟨?_,_,_,false,rfl,?_,nofun,fun _=>⟨.any,k'⟩⟩)
        · simp only [hn,dst_some,Nat.reduceLT]
        · first | rfl | (simp (disch:=decide) only [gx,zV,guardV,Nat.reduceEqDiff,reduceIte];done)
      | skip
        refine .inl ?_;simp (disch:=first | decide | rfl) only [gx,zE,zL,zO,zN,aStepM,optable,Nat.reduceEqDiff,reduceIte,Nat.reduceLT,implies_true,forall_const,reduceCtorEq,V.ofValue,V.ofScalar,V.un,V.gd,guardV,V.wrap,aExec,aop,fillV,if_true,Nat.zero_mul,Nat.one_mul,Nat.mul_one,V.isVal,V.cells,List.mem_cons,List.not_mem_nil,or_false,forall_eq_or_imp,forall_eq,Nat.reduceAdd,Nat.reduceLeDiff,Nat.reduceMul,contentL,Value.oneCell',List.all_cons,List.all_nil,‹Tys _›.h,‹Fc _›.h];repeat (refine andA ?_)
        exact k'):aAny P L rg K (fuel+1) listed ⟨env,O,vw,n,m⟩:=aAny_take hK kp i d hi hd hf hr ⟨v,hp,b⟩
theorem zoAssign {P:Program} {L:Lend} {rg:Array Oper} {K:St→Prop} {fuel:Nat} {listed:Array Bool} {s:St} {oi:Oper} {rest:List Oper} {B:Prop} (i:Nat) (b:Ho B) (hi:rg.toList.drop i=oi::rest:=by rfl) (hr:Region.ready .any rg listed=[i]:=by kernel_rfl)
    (e:Ho B→(∀K':St→Prop,(∀s,aAny P L rg K fuel (listed.setIfInBounds i true) s→K' s)→aStepM P L rg oi s K'):=by
      intro b K k;simp only [zE,zS,aStepM,optable,set_some,Nat.reduceEqDiff,reduceIte,Nat.reduceLT,implies_true,forall_const,reduceCtorEq,V.ofValue,V.ofScalar,V.un,V.gd,aExec,aop,Nat.reduceAdd,contentL,Value.oneCell',List.all_cons,List.all_nil,Bool.and_self,‹Tys _›.h,‹Fc _›.h];repeat (refine andA ?_)
      refine k _ ?_;clear k K;exact b.h):aAny P L rg K (fuel+1) listed s:=aAny_only i hi hr (e b)
theorem zoStore {P:Program} {L:Lend} {rg:Array Oper} {K:St→Prop} {fuel:Nat} {listed:Array Bool} {s:St} {oi:Oper} {rest:List Oper} {B:Prop} (i:Nat) (b:Ho B) (hi:rg.toList.drop i=oi::rest:=by rfl) (hr:Region.ready .any rg listed=[i]:=by kernel_rfl)
    (e:Ho B→(∀K':St→Prop,(∀s,aAny P L rg K fuel (listed.setIfInBounds i true) s→K' s)→aStepM P L rg oi s K'):=by
      intro b K k;simp only [zE,zS,zJ,zL,zO,zN,aStepM,optable,set_some,Nat.reduceEqDiff,reduceIte,Nat.reduceLT,implies_true,forall_const,reduceCtorEq,V.ofValue,V.ofScalar,V.un,V.gd,aExec,aop,aStore,setCells,V.isVal,V.cells,kindOf,kindAll,V.noSl,V.noRef,gt_iff_lt,Nat.reduceAdd,Nat.reduceLeDiff,Nat.reduceMul,takeV,takeCell,takeCells,row_mk,Blk.row,killAll,Nat.reduceBEq,join_t,contentL,Value.oneCell',‹Tys _›.h,‹Fc _›.h];repeat (refine andA ?_)
      refine k _ ?_;clear k K;exact b.h):aAny P L rg K (fuel+1) listed s:=aAny_only i hi hr (e b)
theorem zoAlloc {P:Program} {L:Lend} {rg:Array Oper} {K:St→Prop} {fuel:Nat} {listed:Array Bool} {s:St} {oi:Oper} {rest:List Oper} {B:Prop} (i:Nat) (b:Ho B) (hi:rg.toList.drop i=oi::rest:=by rfl) (hr:Region.ready .any rg listed=[i]:=by kernel_rfl)
    (e:Ho B→(∀K':St→Prop,(∀s,aAny P L rg K fuel (listed.setIfInBounds i true) s→K' s)→aStepM P L rg oi s K'):=by
      intro b K k;simp only [zE,zS,zO,zN,aStepM,optable,set_some,Nat.reduceEqDiff,reduceIte,Nat.reduceLT,implies_true,forall_const,reduceCtorEq,V.ofValue,V.ofScalar,V.un,V.gd,aExec,aop,Nat.reduceAdd,Value.oneCell',V.isVal,V.cells,kindOf,kindAll,V.noSl,V.noRef,List.all_cons,List.all_nil,List.map_cons,List.map_nil,gt_iff_lt,Nat.reduceLeDiff,Nat.reduceMul,contentL,‹Tys _›.h,‹Fc _›.h];repeat (refine andA ?_)
      refine k _ ?_;clear k K;exact b.h):aAny P L rg K (fuel+1) listed s:=aAny_only i hi hr (e b)
theorem zoBuildSlice {P:Program} {L:Lend} {rg:Array Oper} {K:St→Prop} {fuel:Nat} {listed:Array Bool} {s:St} {oi:Oper} {rest:List Oper} {B:Prop} (i:Nat) (b:Ho B) (hi:rg.toList.drop i=oi::rest:=by rfl) (hr:Region.ready .any rg listed=[i]:=by kernel_rfl)
    (e:Ho B→(∀K':St→Prop,(∀s,aAny P L rg K fuel (listed.setIfInBounds i true) s→K' s)→aStepM P L rg oi s K'):=by
      intro b K k;simp only [zE,zO,zN,aStepM,optable,set_some,Nat.reduceEqDiff,reduceIte,Nat.reduceLT,implies_true,forall_const,reduceCtorEq,V.ofValue,V.ofScalar,V.un,V.gd,aExec,aop,litElems,rng0,rng1,rng2,rng3,rng4,rng5,rng6,rng7,rng8,rng9,rng10,rng11,rng12,List.map_cons,List.map_nil,List.all_cons,List.all_nil,V.isVal,V.cells,content,contentL,kindAll,V.noRef,V.noSl,List.mem_cons,List.not_mem_nil,or_false,forall_eq_or_imp,forall_eq,if_true,Option.isSome_some,List.length_cons,List.length_nil,Nat.reduceAdd,Nat.reduceLeDiff,Nat.reduceMul,Value.oneCell',‹Tys _›.h,‹Fc _›.h];repeat (refine andA ?_)
      refine k _ ?_;clear k K;exact b.h):aAny P L rg K (fuel+1) listed s:=aAny_only i hi hr (e b)
theorem zoAppend {P:Program} {L:Lend} {rg:Array Oper} {K:St→Prop} {fuel:Nat} {listed:Array Bool} {s:St} {oi:Oper} {rest:List Oper} {B:Prop} (i:Nat) (b:Ho B) (hi:rg.toList.drop i=oi::rest:=by rfl) (hr:Region.ready .any rg listed=[i]:=by kernel_rfl)
    (e:Ho B→(∀K':St→Prop,(∀s,aAny P L rg K fuel (listed.setIfInBounds i true) s→K' s)→aStepM P L rg oi s K'):=by
      intro b K k;simp only [zE,zL,zO,zN,aStepM,optable,set_some,Nat.reduceEqDiff,reduceIte,Nat.reduceLT,implies_true,forall_const,reduceCtorEq,V.ofValue,V.ofScalar,V.un,V.gd,aExec,aop,fillK_thin,beq_self_eq_true,List.nodup_cons,List.mem_singleton,forall_eq',List.size_toArray,List.getD_eq_getElem?_getD,Array.getD_eq_getD_getElem?,Option.getD_some,aAppend,destOf,srcOf,takeElems,takeV,takeCell,takeCells,row_mk,Blk.row,killAll,V.isSub,V.noSl,Value.cells,Option.toList,List.forall_mem_map,List.length_map,List.all_cons,List.all_nil,List.isEmpty_nil,List.isEmpty_cons,List.not_mem_nil,List.nodup_nil,join_ff,join_ft,join_fv,join_d,join_s,fillK_join0,fillK_join,List.mem_cons,or_false,forall_eq_or_imp,forall_eq,List.set_cons_zero,List.set_cons_succ,List.length_append,Go.Vm.V.cells,Nat.reduceAdd,Nat.reduceLeDiff,Nat.reduceMul,contentL,Value.oneCell',‹Tys _›.h,‹Fc _›.h];repeat (refine andA ?_)
      refine k _ ?_;clear k K;exact b.h):aAny P L rg K (fuel+1) listed s:=aAny_only i hi hr (e b)
theorem zogBuildSlice {P:Program} {L:Lend} {rg:Array Oper} {K:St→Prop} {fuel:Nat} {listed:Array Bool} {s:St} {oi:Oper} {rest:List Oper} {B:Prop} (i:Nat) (b:Ho B) (hi:rg.toList.drop i=oi::rest:=by rfl) (hr:Region.ready .any rg listed=[i]:=by kernel_rfl)
    (e:Ho B→(Region.ready .any rg listed=[i])→(rg.toList.drop i=oi::rest)→aAny P L rg K (fuel+1) listed s:=by
      intro b hr hi;first
      | refine aAny_pass _ _ _ _ hi rfl (ql5 rfl) hr rfl ?_ ?_
        · first | rfl | (simp only [zV,guardV,Nat.reduceEqDiff,reduceIte];done)
        simp only [zW,set_some,Nat.reduceEqDiff,reduceIte];exact b.h
      | skip
        refine aAny_only _ hi hr ?_;intro K k;simp only [zE,zO,zV,zN,aStepM,optable,set_some,Nat.reduceEqDiff,reduceIte,Nat.reduceLT,implies_true,forall_const,reduceCtorEq,V.ofValue,V.ofScalar,V.un,V.gd,guardV,V.wrap,aExec,aop,litElems,rng0,rng1,rng2,rng3,rng4,rng5,rng6,rng7,rng8,rng9,rng10,rng11,rng12,List.map_cons,List.map_nil,List.all_cons,List.all_nil,V.isVal,V.cells,content,contentL,kindAll,V.noRef,V.noSl,List.mem_cons,List.not_mem_nil,or_false,forall_eq_or_imp,forall_eq,if_true,Option.isSome_some,List.length_cons,List.length_nil,Nat.reduceAdd,Nat.reduceLeDiff,Nat.reduceMul,Value.oneCell',‹Tys _›.h,‹Fc _›.h];repeat (refine andA ?_)
        refine k _ ?_;clear k K;exact b.h):aAny P L rg K (fuel+1) listed s:=e b hr hi
theorem zoc {P:Program} {L:Lend} {rg:Array Oper} {K:St→Prop} {fuel:Nat} {listed:Array Bool} {s:St} {oi:Oper} {rest:List Oper} {B:Prop} {C:Prop} (i:Nat) (con:C) (b:Ho B) (hi:rg.toList.drop i=oi::rest:=by rfl) (hr:Region.ready .any rg listed=[i]:=by kernel_rfl)
    (e:C→Ho B→(∀K':St→Prop,(∀s,aAny P L rg K fuel (listed.setIfInBounds i true) s→K' s)→aStepM P L rg oi s K'):=by
      intro con b K k;simp only [zE,zM,aStepM,optable,set_some,Nat.reduceEqDiff,reduceIte,Nat.reduceLT,implies_true,forall_const,reduceCtorEq,V.ofValue,V.ofScalar,V.un,V.gd,aExec,lentIds,lendOf,‹Tys _›.h,‹Fc _›.h];repeat (refine andC ?_)
      refine aCall_new con (by first | rfl | (simp only [toArgs,toArg,toCell,toCells,toRows,Option.map_some,idx,row_mk,List.getElem?_cons_zero,List.getElem?_cons_succ,Option.bind_some,Blk.row,fillK_mix,thK_mix,flat_mix,deep_mix,thin_mix,shal_mix,cond_true,List.map_take];done) | (simp [toArgs,toArg,toCell,toCells,toRows,idx,row_mk,Blk.row,fillK_mix,thK_mix,flat_mix,deep_mix,thin_mix,shal_mix,Nat.beq_refl];done)) (by first | exact .inl ⟨rfl,by simp [Blk.kindIs,fillK_fd,thK_fd]⟩ | exact .inr (by simp [V.cold])) ?_;refine k _ ?_;clear k K;simp only [zY,zW,set_some,Nat.reduceEqDiff,reduceIte,V.ren,V.renL,rho,Nat.reduceAdd];exact b.h):aAny P L rg K (fuel+1) listed s:=aAny_only i hi hr (e con b)
theorem zogc {P:Program} {L:Lend} {rg:Array Oper} {K:St→Prop} {fuel:Nat} {listed:Array Bool} {s:St} {oi:Oper} {rest:List Oper} {B:Prop} {C:Prop} (i:Nat) (con:C) (b:Ho B) (hi:rg.toList.drop i=oi::rest:=by rfl) (hr:Region.ready .any rg listed=[i]:=by kernel_rfl)
    (e:C→Ho B→(Region.ready .any rg listed=[i])→(rg.toList.drop i=oi::rest)→aAny P L rg K (fuel+1) listed s:=by
      intro con b hr hi;first
      | refine aAny_pass _ _ _ _ hi rfl (ql5 rfl) hr rfl ?_ ?_
        · first | rfl | (simp only [zV,guardV,Nat.reduceEqDiff,reduceIte];done)
        simp only [zW,set_some,Nat.reduceEqDiff,reduceIte];exact b.h
      | skip
        refine aAny_only _ hi hr ?_;intro K k;simp only [zE,zG,aStepM,optable,set_some,Nat.reduceEqDiff,reduceIte,Nat.reduceLT,implies_true,forall_const,reduceCtorEq,V.ofValue,V.ofScalar,V.un,V.gd,guardV,‹Tys _›.h,‹Fc _›.h];simp only [zM,zW,aExec,lentIds,lendOf,set_some,Nat.reduceEqDiff,reduceIte,V.ofValue,V.ofScalar,V.un,V.gd,and_true,true_and,implies_true,and_self,decide_eq_true_eq];first | refine Exists.imp (fun r h=>h) (aCall_guardT con (by first | rfl | (simp only [toArgs,toArg,toCell,toCells,toRows,Option.map_some,idx,row_mk,List.getElem?_cons_zero,List.getElem?_cons_succ,Option.bind_some,Blk.row,fillK_mix,thK_mix,flat_mix,deep_mix,thin_mix,shal_mix,cond_true,List.map_take];done) | (simp [toArgs,toArg,toCell,toCells,toRows,idx,row_mk,Blk.row,fillK_mix,thK_mix,flat_mix,deep_mix,thin_mix,shal_mix,Nat.beq_refl];done)) rfl rfl ?_) | refine Exists.imp (fun r h=>h) (aCall_guard0 (fun hg=>con) (by first | rfl | (simp only [toArgs,toArg,toCell,toCells,toRows,Option.map_some,idx,row_mk,List.getElem?_cons_zero,List.getElem?_cons_succ,Option.bind_some,Blk.row,fillK_mix,thK_mix,flat_mix,deep_mix,thin_mix,shal_mix,cond_true,List.map_take];done) | (simp [toArgs,toArg,toCell,toCells,toRows,idx,row_mk,Blk.row,fillK_mix,thK_mix,flat_mix,deep_mix,thin_mix,shal_mix,Nat.beq_refl];done)) rfl rfl ?_) | refine Exists.imp (fun r h=>h) (aCall_guard (by first | (intros;trivial) | (intros;simp_all;done)) (fun hg=>con) (by first | rfl | (simp only [toArgs,toArg,toCell,toCells,toRows,Option.map_some,idx,row_mk,List.getElem?_cons_zero,List.getElem?_cons_succ,Option.bind_some,Blk.row,fillK_mix,thK_mix,flat_mix,deep_mix,thin_mix,shal_mix,cond_true,List.map_take];done) | (simp [toArgs,toArg,toCell,toCells,toRows,idx,row_mk,Blk.row,fillK_mix,thK_mix,flat_mix,deep_mix,thin_mix,shal_mix,Nat.beq_refl];done)) rfl rfl ?_)
        refine k _ ?_;clear k K;exact b.h):aAny P L rg K (fuel+1) listed s:=e con b hr hi
theorem zogcc {P:Program} {L:Lend} {rg:Array Oper} {K:St→Prop} {fuel:Nat} {listed:Array Bool} {s:St} {oi:Oper} {rest:List Oper} {B:Prop} {C:Prop} (i:Nat) (con:C) (b:Ho B) (hi:rg.toList.drop i=oi::rest:=by rfl) (hr:Region.ready .any rg listed=[i]:=by kernel_rfl)
    (e:C→Ho B→(Region.ready .any rg listed=[i])→(rg.toList.drop i=oi::rest)→aAny P L rg K (fuel+1) listed s:=by
      intro con b hr hi;first
      | refine aAny_pass _ _ _ _ hi rfl (ql5 rfl) hr rfl ?_ ?_
        · first | rfl | (simp only [zV,guardV,Nat.reduceEqDiff,reduceIte];done)
        simp only [zW,set_some,Nat.reduceEqDiff,reduceIte];exact b.h
      | skip
        refine aAny_only _ hi hr ?_;intro K k;simp only [zE,zG,aStepM,optable,set_some,Nat.reduceEqDiff,reduceIte,Nat.reduceLT,implies_true,forall_const,reduceCtorEq,V.ofValue,V.ofScalar,V.un,V.gd,guardV,‹Tys _›.h,‹Fc _›.h];simp only [zM,zW,aExec,lentIds,lendOf,set_some,Nat.reduceEqDiff,reduceIte,V.ofValue,V.ofScalar,V.un,V.gd,and_true,true_and,implies_true,and_self,decide_eq_true_eq];first | refine Exists.imp (fun r h=>h) (aCall_guardT con (by first | rfl | (simp only [toArgs,toArg,toCell,toCells,toRows,Option.map_some,idx,row_mk,List.getElem?_cons_zero,List.getElem?_cons_succ,Option.bind_some,Blk.row,fillK_mix,thK_mix,flat_mix,deep_mix,thin_mix,shal_mix,cond_true,List.map_take,‹Caps _›.cc,‹Caps _›.ca];done) | (simp [toArgs,toArg,toCell,toCells,toRows,idx,row_mk,Blk.row,fillK_mix,thK_mix,flat_mix,deep_mix,thin_mix,shal_mix,Nat.beq_refl,‹Caps _›.cc,‹Caps _›.ca];done)) rfl rfl ?_) | refine Exists.imp (fun r h=>h) (aCall_guard0 (fun hg=>con) (by first | rfl | (simp only [toArgs,toArg,toCell,toCells,toRows,Option.map_some,idx,row_mk,List.getElem?_cons_zero,List.getElem?_cons_succ,Option.bind_some,Blk.row,fillK_mix,thK_mix,flat_mix,deep_mix,thin_mix,shal_mix,cond_true,List.map_take,‹Caps _›.cc,‹Caps _›.ca];done) | (simp [toArgs,toArg,toCell,toCells,toRows,idx,row_mk,Blk.row,fillK_mix,thK_mix,flat_mix,deep_mix,thin_mix,shal_mix,Nat.beq_refl,‹Caps _›.cc,‹Caps _›.ca];done)) rfl rfl ?_) | refine Exists.imp (fun r h=>h) (aCall_guard (by first | (intros;trivial) | (intros;simp_all;done)) (fun hg=>con) (by first | rfl | (simp only [toArgs,toArg,toCell,toCells,toRows,Option.map_some,idx,row_mk,List.getElem?_cons_zero,List.getElem?_cons_succ,Option.bind_some,Blk.row,fillK_mix,thK_mix,flat_mix,deep_mix,thin_mix,shal_mix,cond_true,List.map_take,‹Caps _›.cc,‹Caps _›.ca];done) | (simp [toArgs,toArg,toCell,toCells,toRows,idx,row_mk,Blk.row,fillK_mix,thK_mix,flat_mix,deep_mix,thin_mix,shal_mix,Nat.beq_refl,‹Caps _›.cc,‹Caps _›.ca];done)) rfl rfl ?_)
        refine k _ ?_;clear k K;exact b.h):aAny P L rg K (fuel+1) listed s:=e con b hr hi
end Go.Vm
namespace Go.Vm
open Go
def opNo (o:Oper):Nat:=(match o.op with
  | .move _=>0
  | .assign _=>2
  | .pick _ _ _=>4
  | .alloc _=>6
  | .box _ _=>8
  | .build _ _=>10
  | .buildSlice _ _ _=>12
  | .load _ _=>14
  | .store _ _ _=>16
  | .nilCheck _=>18
  | .unOp _ _ _=>26
  | .convert _ _ _=>28
  | .makeSlice _ _ _=>30
  | .slice _ _ _ _ _=>32
  | .fieldAddr _ _ _=>34
  | .field _ _ _=>36
  | .indexAddr _ _ _=>38
  | .index _ _ _=>40
  | .extract _ _=>42
  | .makeFunc _ _ _=>56
  | .binOp b _ _ y _=>(match y with
    | .const (.slice _ _ _)=>90
    | _=>match b with
      | .add | .sub | .mul | .quo=>22
      | _=>20)
  | .call c=>(match c.callee with
    | .builtin .len=>44
    | .builtin .append=>46
    | .builtin .max=>48
    | .builtin .min=>50
    | .builtin .copy=>52
    | .builtin .clear=>54
    | _=>60)
  | _=>90)+(match o.guard with
  | none=>0
  | _=>1)
theorem opIs {P:Program} {L:Lend} {rg:Array Oper} {K:St→Prop} {o:Oper} {rest:List Oper} {s:St} (n:Nat) (hn:opNo o=n) (h:aOps P L rg K (o::rest) s):aOps P L rg K (o::rest) s:=h
structure Ks (ks:List Nat):Prop where
  t:True
theorem v_seqK {P:Program} {L:Lend} {m:Nat} {Q:AEx→St→Prop} {s:St} {id:Nat} {ops:Array Oper} {y:Code} {ks:List Nat} (_:Ks ks)
    (h:∀K:St→Prop,(∀s,awp P L m y Q (s.keep ks)→K s)→aOps P L ops K ops.toList s):awp P L m (.seq (.region id ops false) y) Q s:=v_seqR ks h
theorem rA {R:St→Prop} {Q:AEx→St→Prop} {x:AEx} {s:St} (h:∀s,R s→Q x s) (g:R s):Q x s:=h s g
theorem eA {R:Nat→St→Prop} {Q:AEx→St→Prop} {i:Nat} {s:St} (h:∀i s,R i s→Q (.exit i) s) (g:R i s):Q (.exit i) s:=h i s g
theorem eB {R:Nat→St→Prop} {Q:AEx→St→Prop} {i j:Nat} {s:St} (h:∀i s,i≠j→R i s→Q (.exit i) s) (hi:i≠j) (g:R i s):Q (.exit i) s:=h i s hi g
theorem nA {m:Nat} {ks:List Nat} {A:St→Prop} {Q:AEx→St→Prop} {s:St} (_:Ks ks) (h:∀s s1,Weak m s s1→A s1→Q .normal s) (g:A (s.keep ks)):Q .normal s:=h _ _ (weak_keep ks s) g
theorem zz {A B:Prop} (b:Ho B) (e:Ho B→A:=by
  intro b;repeat (first
    | (refine opIs 0 rfl ?_;refine zMove ⟨?_⟩)
    | (refine opIs 14 rfl ?_;refine zLoad ⟨?_⟩)
    | (refine opIs 20 rfl ?_;refine zBinOp ⟨?_⟩)
    | (refine opIs 2 rfl ?_;refine zAssign ⟨?_⟩)
    | (refine opIs 34 rfl ?_;refine zFieldAddr ⟨?_⟩)
    | (refine opIs 38 rfl ?_;refine zIndexAddr ⟨?_⟩)
    | (refine opIs 16 rfl ?_;refine zStore ⟨?_⟩)
    | (refine opIs 42 rfl ?_;refine zExtract ⟨?_⟩)
    | (refine opIs 44 rfl ?_;refine zLen ⟨?_⟩)
    | (refine opIs 22 rfl ?_;refine zBinOpW ⟨?_⟩)
    | (refine opIs 28 rfl ?_;refine zConvert ⟨?_⟩)
    | (refine opIs 26 rfl ?_;refine zUnOp ⟨?_⟩)
    | (refine opIs 32 rfl ?_;refine zSlice ⟨?_⟩)
    | (refine opIs 6 rfl ?_;refine zAlloc ⟨?_⟩)
    | (refine opIs 8 rfl ?_;refine zBox ⟨?_⟩)
    | (refine opIs 10 rfl ?_;refine zBuild ⟨?_⟩)
    | (refine opIs 12 rfl ?_;refine zBuildSlice ⟨?_⟩)
    | (refine opIs 46 rfl ?_;refine zAppend ⟨?_⟩)
    | (refine opIs 4 rfl ?_;refine zPick ⟨?_⟩)
    | (refine opIs 18 rfl ?_;refine zNilCheck ⟨?_⟩)
    | (refine opIs 30 rfl ?_;refine zMakeSlice ⟨?_⟩)
    | (refine opIs 36 rfl ?_;refine zField ⟨?_⟩)
    | (refine opIs 40 rfl ?_;refine zIndex ⟨?_⟩)
    | (refine opIs 48 rfl ?_;refine zMax ⟨?_⟩)
    | (refine opIs 50 rfl ?_;refine zMin ⟨?_⟩)
    | (refine opIs 52 rfl ?_;refine zCopy ⟨?_⟩)
    | (refine opIs 54 rfl ?_;refine zClear ⟨?_⟩)
    | (refine opIs 56 rfl ?_;refine zMakeFunc ⟨?_⟩)
    | (refine opIs 1 rfl ?_;refine zgMove ⟨?_⟩)
    | (refine opIs 15 rfl ?_;refine zgLoad ⟨?_⟩)
    | (refine opIs 21 rfl ?_;refine zgBinOp ⟨?_⟩)
    | (refine opIs 3 rfl ?_;refine zgAssign ⟨?_⟩)
    | (refine opIs 35 rfl ?_;refine zgFieldAddr ⟨?_⟩)
    | (refine opIs 39 rfl ?_;refine zgIndexAddr ⟨?_⟩)
    | (refine opIs 17 rfl ?_;refine zgStore ⟨?_⟩)
    | (refine opIs 43 rfl ?_;refine zgExtract ⟨?_⟩)
    | (refine opIs 45 rfl ?_;refine zgLen ⟨?_⟩)
    | (refine opIs 23 rfl ?_;refine zgBinOpW ⟨?_⟩)
    | (refine opIs 29 rfl ?_;refine zgConvert ⟨?_⟩)
    | (refine opIs 27 rfl ?_;refine zgUnOp ⟨?_⟩)
    | (refine opIs 33 rfl ?_;refine zgSlice ⟨?_⟩)
    | (refine opIs 7 rfl ?_;refine zgAlloc ⟨?_⟩)
    | (refine opIs 9 rfl ?_;refine zgBox ⟨?_⟩)
    | (refine opIs 11 rfl ?_;refine zgBuild ⟨?_⟩)
    | (refine opIs 13 rfl ?_;refine zgBuildSlice ⟨?_⟩)
    | (refine opIs 47 rfl ?_;refine zgAppend ⟨?_⟩)
    | (refine opIs 5 rfl ?_;refine zgPick ⟨?_⟩)
    | (refine opIs 19 rfl ?_;refine zgNilCheck ⟨?_⟩)
    | (refine opIs 31 rfl ?_;refine zgMakeSlice ⟨?_⟩)
    | (refine opIs 37 rfl ?_;refine zgField ⟨?_⟩)
    | (refine opIs 41 rfl ?_;refine zgIndex ⟨?_⟩)
    | (refine opIs 49 rfl ?_;refine zgMax ⟨?_⟩)
    | (refine opIs 51 rfl ?_;refine zgMin ⟨?_⟩)
    | (refine opIs 53 rfl ?_;refine zgCopy ⟨?_⟩)
    | (refine opIs 55 rfl ?_;refine zgClear ⟨?_⟩)
    | (refine opIs 57 rfl ?_;refine zgMakeFunc ⟨?_⟩))
  exact b.h):A:=e b
theorem zr {A B:Prop} (b:Ho B) (e:Ho B→A:=by
  intro b;refine v_ret ?_;repeat (refine rA (by assumption) ?_)
  refine zf ⟨?_⟩;exact b.h):A:=e b
theorem zn (ks:List Nat) {A B:Prop} (b:Ho B) (e:Ks ks→Ho B→A:=by
  intro q b;first | refine v_skip ?_ | refine v_exit ?_ | skip
  repeat (first | refine rA (by assumption) ?_ | refine eA (by assumption) ?_ | refine eB (by assumption) (by decide) ?_)
  refine nA q (by assumption) ?_;simp only [keep_mk,keepE_nil,keepE_cons,look_cons,look_nil,Nat.reduceEqDiff,reduceIte];exact b.h):A:=e ⟨trivial⟩ b
theorem zx {A B:Prop} (b:Ho B) (e:Ho B→A:=by
  intro b;first | refine v_skip ?_ | refine v_exit ?_
  repeat (first | refine rA (by assumption) ?_ | refine eA (by assumption) ?_ | refine eB (by assumption) (by decide) ?_)
  exact b.h):A:=e b
theorem yR (ks:List Nat) {A B:Prop} (b:Ho B) (e:Ks ks→Ho B→A:=by
  intro q b;refine v_seqK q ?_;intro K k;refine zz ⟨?_⟩;refine k _ ?_;clear k K;simp only [keep_mk,keepE_nil,keepE_cons,look_cons,look_nil,Nat.reduceEqDiff,reduceIte];exact b.h):A:=e ⟨trivial⟩ b
theorem yQ (ks:List Nat) {A B:Prop} (b:Ho B) (e:Ks ks→Ho B→A:=by
  intro q b;refine v_region ?_;intro K k;refine zz ⟨?_⟩;refine k _ ?_;clear k K;repeat (first | refine rA (by assumption) ?_ | refine eA (by assumption) ?_ | refine eB (by assumption) (by decide) ?_)
  refine nA q (by assumption) ?_;simp only [keep_mk,keepE_nil,keepE_cons,look_cons,look_nil,Nat.reduceEqDiff,reduceIte];exact b.h):A:=e ⟨trivial⟩ b
theorem yV {A B:Prop} (b:Ho B) (e:Ho B→A:=by
  intro b;refine v_region ?_;intro K k;refine zz ⟨?_⟩;refine k _ ?_;clear k K;repeat (first | refine rA (by assumption) ?_ | refine eA (by assumption) ?_ | refine eB (by assumption) (by decide) ?_)
  exact b.h):A:=e b
theorem yRc (ks:List Nat) {C0 A B:Prop} (con0:C0) (b:Ho B) (e:Ks ks→C0→Ho B→A:=by
  intro q con0 b;refine v_seqK q ?_;intro K k;refine zz ⟨?_⟩;refine zc con0 ⟨?_⟩;refine zz ⟨?_⟩;refine k _ ?_;clear k K;simp only [keep_mk,keepE_nil,keepE_cons,look_cons,look_nil,Nat.reduceEqDiff,reduceIte];exact b.h):A:=e ⟨trivial⟩ con0 b
theorem yRg (ks:List Nat) {C0 A B:Prop} (con0:C0) (b:Ho B) (e:Ks ks→C0→Ho B→A:=by
  intro q con0 b;refine v_seqK q ?_;intro K k;refine zz ⟨?_⟩;refine zgc con0 ⟨?_⟩;refine zz ⟨?_⟩;refine k _ ?_;clear k K;simp only [keep_mk,keepE_nil,keepE_cons,look_cons,look_nil,Nat.reduceEqDiff,reduceIte];exact b.h):A:=e ⟨trivial⟩ con0 b
theorem yRl (ks:List Nat) {C0 A B:Prop} (con0:C0) (b:Ho B) (e:Ks ks→C0→Ho B→A:=by
  intro q con0 b;refine v_seqK q ?_;intro K k;refine zz ⟨?_⟩;refine zcl con0 ⟨?_⟩;refine zz ⟨?_⟩;refine k _ ?_;clear k K;simp only [keep_mk,keepE_nil,keepE_cons,look_cons,look_nil,Nat.reduceEqDiff,reduceIte];exact b.h):A:=e ⟨trivial⟩ con0 b
theorem yRcc (ks:List Nat) {C0 C1 A B:Prop} (con0:C0) (con1:C1) (b:Ho B) (e:Ks ks→C0→C1→Ho B→A:=by
  intro q con0 con1 b;refine v_seqK q ?_;intro K k;refine zz ⟨?_⟩;refine zc con0 ⟨?_⟩;refine zz ⟨?_⟩;refine zc con1 ⟨?_⟩;refine zz ⟨?_⟩;refine k _ ?_;clear k K;simp only [keep_mk,keepE_nil,keepE_cons,look_cons,look_nil,Nat.reduceEqDiff,reduceIte];exact b.h):A:=e ⟨trivial⟩ con0 con1 b
theorem yRcg (ks:List Nat) {C0 C1 A B:Prop} (con0:C0) (con1:C1) (b:Ho B) (e:Ks ks→C0→C1→Ho B→A:=by
  intro q con0 con1 b;refine v_seqK q ?_;intro K k;refine zz ⟨?_⟩;refine zc con0 ⟨?_⟩;refine zz ⟨?_⟩;refine zgc con1 ⟨?_⟩;refine zz ⟨?_⟩;refine k _ ?_;clear k K;simp only [keep_mk,keepE_nil,keepE_cons,look_cons,look_nil,Nat.reduceEqDiff,reduceIte];exact b.h):A:=e ⟨trivial⟩ con0 con1 b
theorem yRcgg (ks:List Nat) {C0 C1 C2 A B:Prop} (con0:C0) (con1:C1) (con2:C2) (b:Ho B) (e:Ks ks→C0→C1→C2→Ho B→A:=by
  intro q con0 con1 con2 b;refine v_seqK q ?_;intro K k;refine zz ⟨?_⟩;refine zc con0 ⟨?_⟩;refine zz ⟨?_⟩;refine zgc con1 ⟨?_⟩;refine zz ⟨?_⟩;refine zgc con2 ⟨?_⟩;refine zz ⟨?_⟩;refine k _ ?_;clear k K;simp only [keep_mk,keepE_nil,keepE_cons,look_cons,look_nil,Nat.reduceEqDiff,reduceIte];exact b.h):A:=e ⟨trivial⟩ con0 con1 con2 b
theorem yQc (ks:List Nat) {C0 A B:Prop} (con0:C0) (b:Ho B) (e:Ks ks→C0→Ho B→A:=by
  intro q con0 b;refine v_region ?_;intro K k;refine zz ⟨?_⟩;refine zc con0 ⟨?_⟩;refine zz ⟨?_⟩;refine k _ ?_;clear k K;repeat (first | refine rA (by assumption) ?_ | refine eA (by assumption) ?_ | refine eB (by assumption) (by decide) ?_)
  refine nA q (by assumption) ?_;simp only [keep_mk,keepE_nil,keepE_cons,look_cons,look_nil,Nat.reduceEqDiff,reduceIte];exact b.h):A:=e ⟨trivial⟩ con0 b
theorem yVc {C0 A B:Prop} (con0:C0) (b:Ho B) (e:C0→Ho B→A:=by
  intro con0 b;refine v_region ?_;intro K k;refine zz ⟨?_⟩;refine zc con0 ⟨?_⟩;refine zz ⟨?_⟩;refine k _ ?_;clear k K;repeat (first | refine rA (by assumption) ?_ | refine eA (by assumption) ?_ | refine eB (by assumption) (by decide) ?_)
  exact b.h):A:=e con0 b
end Go.Vm
namespace Go.Vm
open Go
def KeepO (O O':List Blk):Prop:=∀(id:Nat) (b:Blk),id≠0→O[id]? =some b→O'[id]? =some b
theorem KeepO.refl (O:List Blk):KeepO O O:=fun _ _ _ h=>h
theorem KeepO.app {O new:List Blk}:KeepO O (O++new):=fun id b _ h=>Grow.app O new id b h
theorem KeepO.set0 {O new:List Blk} {b:Blk}:KeepO O (O.set 0 b++new):=fun id c h0 h=>Grow.app _ new id c (by rw [qlq (Ne.symm h0)];exact h)
theorem KeepO.set1 {O new:List Blk} {b c:Blk} {i:Nat} (h:O[i]? =some c):KeepO O ((O.set 0 b).set i c++new):=fun id d h0 q=>Grow.app _ new id d (by
  by_cases e:i=id
  · subst e
    rw [qlj (by rw [qln];exact (qlc.1 h).1),←h,q]
  · rw [qlq e,qlq (Ne.symm h0)];exact q)
abbrev TyG:=List Blk→(Nat→V)→Prop
def TyOK (T:TyG) (dl:List Nat):Prop:=∀O O' g g',KeepO O O'→(∀x∈dl,g' x=g x)→T O g→T O' g'
def aftOf (rg:Array Oper) (j:Nat):List Nat:=match rg[j]? with
  | some o=>(o.after.toList.filter fun e=>Go.Region.binds .any e).map (·.on)
  | none=>[]
def dstOf (rg:Array Oper) (i:Nat):Option Nat:=(rg[i]?).bind (·.dst)
def closA (rg:Array Oper):Nat→List Nat→List Nat
  | 0,l=>l
  | k+1,l=>closA rg k ((List.range rg.size).filter fun i=>l.contains i || l.any fun j=>(aftOf rg j).contains i)
def regOK (rg:Array Oper) (S Rq D0:List Nat) (Dp:List (List Nat)):Bool:=
  ((List.range rg.size).all fun j=>(aftOf rg j).all (Nat.blt · j)) &&
  ((List.range rg.size).all fun j=>S.contains j || Rq.all fun i=>(closA rg 12 (aftOf rg j)).contains i) && (Rq.all fun i=>S.contains i) &&
  (S.all fun i=>Nat.blt i rg.size && match dstOf rg i with
    | none=>true
    | some d=> !D0.contains d && (List.range Dp.length).all fun j=>Nat.beq j i || (aftOf rg j).contains i || !(Dp.getD j []).contains d)
def PostO (cv:Int→Int→Blk) (n:Nat) (env:List (Nat×V)) (mask:Nat) (O:List Blk) (a cm:Int) (d:Option Nat) (T:TyG) (t':St):Prop:=
  ∃v O' a' s',t'=(⟨env,O',false,n,mask⟩:St).set d v∧KeepO O O'∧O'[0]? =some (cv a' s')∧a≤a'∧a'≤a+cm∧T O' t'.get
def OpOK (P:Program) (L:Lend) (rg:Array Oper) (cv:Int→Int→Blk) (n:Nat) (a0 cm:Int) (T0:TyG) (Ts:Nat→TyG) (i:Nat) (o:Oper):Prop:=
  ∀ env O mask a s,O[0]? =some (cv a s)→(a0≤a∧a≤a0+cm * rg.size)→T0 O (fun x=>look x env)→(∀j∈aftOf rg i,Ts j O (fun x=>look x env))→
    ∀K':St→Prop,(∀s,PostO cv n env mask O a cm o.dst (Ts i) s→K' s)→aStep P L rg o ⟨env,O,false,n,mask⟩ K'
structure RI (rg:Array Oper) (cv:Int→Int→Blk) (n:Nat) (a0 cm:Int) (S:List Nat) (T0:TyG) (Ts:Nat→TyG) (k:Nat) (listed:Array Bool) (t:St):Prop where
  st:∃env O mask a s,t=⟨env,O,false,n,mask⟩∧O[0]? =some (cv a s)∧a0≤a∧a≤a0+cm * k
  t0:T0 t.O t.get
  ts:∀j∈S,listed.getD j true=true→Ts j t.O t.get
  cl:∀j∈S,listed.getD j true=true→∀i∈aftOf rg j,listed.getD i true=true
  sz:listed.size=rg.size
  only:∀j,j < rg.size→listed.getD j true=true→j∈S
section
variable {P:Program} {L:Lend} {rg:Array Oper} {K:St→Prop}
theorem ready_of {listed:Array Bool} {j:Nat} (hj:j < rg.size) (h0:listed.getD j true=false) (h:∀i∈aftOf rg j,listed.getD i false=true):j∈Region.ready .any rg listed:=by
  refine mem_ready.2 ⟨h0,rg[j],Array.getElem?_eq_getElem hj,fun e he hb=>h _ ?_⟩;have e1:rg[j]? =some rg[j]:=Array.getElem?_eq_getElem hj;simp only [aftOf,e1,List.mem_map,List.mem_filter];exact ⟨e,⟨by simpa using he,hb⟩,rfl⟩
theorem ready_aft {listed:Array Bool} {j:Nat} (h:j∈Region.ready .any rg listed):listed.getD j true=false∧j < rg.size∧∀i∈aftOf rg j,listed.getD i false=true:=by
  obtain ⟨h0,o,ho,hall⟩:=mem_ready.1 h;refine ⟨h0,(Array.getElem?_eq_some_iff.1 ho).1,fun i hi=> ?_⟩;simp only [aftOf,ho,List.mem_map,List.mem_filter] at hi;obtain ⟨e,⟨he,hb⟩,rfl⟩:=hi;exact hall e (by simpa using he) hb
theorem getD_tf {listed:Array Bool} {i:Nat} (h:i < listed.size):listed.getD i false=listed.getD i true:=by
  simp [Array.getD,h]
theorem aAny_typed {cv:Int→Int→Blk} {n:Nat} {a0 cm:Int} (S Rq D0:List Nat) (Dp:List (List Nat)) {T0:TyG} {Ts:Nat→TyG} (hreg:regOK rg S Rq D0 Dp=true) (hnd:S.Nodup) (hcm:0≤cm)
    (h0:TyOK T0 D0) (hT:∀j∈S,TyOK (Ts j) (Dp.getD j [])∧j < Dp.length)
    (ops:∀i∈S,∀o,rg[i]? =some o→OpOK P L rg cv n a0 cm T0 Ts i o)
    (tail:∀u (listed:Array Bool) env O mask a s,listed.size=rg.size→(∀j,j < rg.size→listed.getD j true=true→j∈S)→(∀j∈Rq,listed.getD j true=true)→(S.filter fun j=> !listed.getD j true).length=u→
      O[0]? =some (cv a s)→(a0≤a∧a≤a0+cm * rg.size)→T0 O (fun x=>look x env)→(∀j∈S,listed.getD j true=true→Ts j O (fun x=>look x env))→
      aAny P L rg K (rg.size - S.length+u) listed ⟨env,O,false,n,mask⟩) :
    ∀u k listed t,RI rg cv n a0 cm S T0 Ts k listed t→(S.filter fun j=> !listed.getD j true).length=u→k+u≤rg.size→aAny P L rg K (rg.size - S.length+u) listed t:=by
  simp only [regOK,Bool.and_eq_true] at hreg;obtain ⟨⟨⟨r1,r2⟩,r4⟩,r3⟩:=hreg;have rqS:∀j∈Rq,j∈S:=fun j hj=>by
    have:=qlh.1 r4 j hj;simpa using this
  intro u
  induction u with
  | zero=>
    intro k listed t hI hu hk;obtain ⟨env,O,mask,a,s,rfl,hc,ha1,ha2⟩:=hI.st;have hall:∀j∈S,listed.getD j true=true:=fun j hj=>by
      have:=qlx.1 hu;rw [List.filter_eq_nil_iff] at this;simpa using this j hj
    have hkk:cm * (k:Int)≤cm * (rg.size:Int):=Int.mul_le_mul_of_nonneg_left (by omega) hcm;exact tail 0 listed env O mask a s hI.sz hI.only (fun j hj=>hall j (rqS j hj)) hu hc ⟨ha1,by omega⟩ hI.t0 hI.ts
  | succ u ih =>
    intro k listed t hI hu hk;obtain ⟨env,O,mask,a,s,rfl,hc,ha1,ha2⟩:=hI.st;have hkk:cm * (k:Int)≤cm * (rg.size:Int):=Int.mul_le_mul_of_nonneg_left (by omega) hcm
    by_cases hall:∀j∈Rq,listed.getD j true=true
    · exact tail (u+1) listed env O mask a s hI.sz hI.only hall hu hc ⟨ha1,by omega⟩ hI.t0 hI.ts
    have hex:∃i∈Rq,listed.getD i true=false:=by
      refine Classical.byContradiction fun h=>hall fun j hj=> ?_
      cases q:listed.getD j true with
      | true=>rfl
      | false=>exact absurd ⟨j,hj,q⟩ h
    obtain ⟨i0,hi0q,hi1⟩:=hex;have hi0:=rqS i0 hi0q;have lt:∀j∈S,j < rg.size:=fun j hj=>by
      have:=qlh.1 r3 j hj;rw [qlo] at this;simpa using this.1
    refine ⟨fun hnil=> ?_,fun i hi o ho=> ?_⟩
    · exfalso
      have least:∀b,∀j,j < b→j < rg.size→listed.getD j true=false→False:=by
        intro b
        induction b with
        | zero=>intro j hj;omega
        | succ b ihb=>
          intro j hj hjn h0;have:j∈Region.ready .any rg listed:=ready_of hjn h0 fun i hi=>by
            have hlt:i < j:=by
              have:=qlh.1 (qlh.1 r1 j (qmi.2 hjn)) i hi;simpa using this
            rw [getD_tf (by rw [hI.sz];omega)];cases q:listed.getD i true with
            | true=>rfl
            | false=>exact (ihb i (by omega) (by omega) q).elim
          rw [hnil] at this;cases this
      exact least (i0+1) i0 (Nat.lt_succ_self _) (lt i0 hi0) hi1
    · obtain ⟨hun,hin,haft⟩:=ready_aft hi
      have aftlt:∀j,j < rg.size→∀x∈aftOf rg j,x < j:=fun j hj x hx=>by
        have:=qlh.1 (qlh.1 r1 j (qmi.2 hj)) x hx;simpa using this
      have clo:∀(k:Nat) (l:List Nat),(∀x∈l,x < rg.size∧listed.getD x true=true)→∀x∈closA rg k l,listed.getD x true=true:=by
        intro k
        induction k with
        | zero=>exact fun l h x hx=>(h x hx).2
        | succ k ihk=>
          intro l h x hx;refine ihk _ (fun y hy=> ?_) x hx;rw [List.mem_filter,qmi,Bool.or_eq_true] at hy;refine ⟨hy.1,?_⟩;rcases hy.2 with q | q
          · exact (h y (by simpa using q)).2
          · obtain ⟨j,hj,hjy⟩:=List.any_eq_true.1 q
            exact hI.cl j (hI.only j (h j hj).1 (h j hj).2) (h j hj).2 y (by simpa using hjy)
      have hiS:i∈S:=by
        have:=qlh.1 r2 i (qmi.2 hin);rw [Bool.or_eq_true] at this;rcases this with q | q
        · simpa using q
        · have:=qlh.1 q i0 hi0q
          have:=clo 12 (aftOf rg i) (fun x hx=>⟨Nat.lt_trans (aftlt i hin x hx) hin,by
            have q2:=haft x hx
            rwa [getD_tf (by rw [hI.sz];exact Nat.lt_trans (aftlt i hin x hx) hin)] at q2⟩) i0 (by simpa using this)
          rw [hi1] at this;cases this
      refine ops i hiS o ho env O mask a s hc ⟨ha1,by omega⟩ hI.t0 (fun j hj=> ?_) _ (fun t' hp=> ?_)
      · have h1:=haft j hj
        have hjn:j < rg.size:=by
          have:=qlh.1 (qlh.1 r1 i (qmi.2 hin)) j hj;have:j < i:=by simpa using this
          omega
        rw [getD_tf (by rw [hI.sz];exact hjn)] at h1;exact hI.ts j (hI.only j hjn h1) h1
      · obtain ⟨v,O',a',s',rfl,hko,hc',hb1,hb2,hT'⟩:=hp
        have hdst:dstOf rg i=o.dst:=by simp [dstOf,ho]
        have hget:∀x,o.dst≠some x→((⟨env,O',false,n,mask⟩:St).set o.dst v).get x=look x env:=by
          intro x hx;cases hd:o.dst with
          | none=>rfl
          | some d=>
            show look x ((d,v)::env)=look x env;rw [look_cons,if_neg (fun e=>hx (by rw [hd,e]))]
        have hslot:∀d,o.dst=some d→d ∉ D0∧∀j,j < Dp.length→j≠i→i ∉ aftOf rg j→d ∉ Dp.getD j []:=by
          intro d hd;have:=qlh.1 r3 i hiS;rw [qlo,hdst,hd] at this;simp only [Bool.and_eq_true,Bool.not_eq_true'] at this;refine ⟨fun m=> ?_,fun j hj hji haj m=> ?_⟩
          · have q:=this.2.1
            rw [qml.2 m] at q;cases q
          · have q:=qlh.1 this.2.2 j (qmi.2 hj)
            simp only [Bool.or_eq_true,List.contains_iff_mem,Bool.not_eq_true'] at q;rcases q with (q | q) | q
            · exact hji (Nat.eq_of_beq_eq_true q)
            · exact haj q
            · rw [qml.2 m] at q;cases q
        have hstO:((⟨env,O',false,n,mask⟩:St).set o.dst v).O=O':=by rw [set_O]
        have hlist:∀j,(listed.setIfInBounds i true).getD j true=true→j=i∨listed.getD j true=true:=fun j h=>by
          by_cases e:j=i
          · exact .inl e
          · rw [getD_set_ne true (Ne.symm e)] at h;exact .inr h
        have hself:∀j,listed.getD j true=true→(listed.setIfInBounds i true).getD j true=true:=fun j h=>by
          by_cases e:j=i
          · subst e;rw [hun] at h;cases h
          · rw [getD_set_ne true (Ne.symm e)];exact h
        have hselfi:(listed.setIfInBounds i true).getD i true=true:=by
          simp [Array.getD,hI.sz,hin]
        refine ih (k+1) _ _ ⟨?_,?_,?_,?_,by simp [hI.sz],fun j hj h=> ?_⟩ ?_ (by omega)
        · have e2:cm * ((k+1:Nat):Int)=cm * (k:Int)+cm:=by rw [Int.natCast_add,Int.mul_add];simp
          cases hd:o.dst with
          | none=>exact ⟨env,O',mask,a',s',rfl,hc',by omega,by omega⟩
          | some d=>exact ⟨(d,v)::env,O',mask,a',s',rfl,hc',by omega,by omega⟩
        · rw [hstO]
          refine h0 O O' _ _ hko (fun x hx=>hget x (fun hd=>(hslot x hd).1 hx)) hI.t0
        · intro j hj h
          rw [hstO];rcases hlist j h with rfl | h2
          · exact hT'
          · have hne:j≠i:=fun e=>by rw [e,hun] at h2;cases h2
            have hna:i ∉ aftOf rg j:=fun m=>by
              have:=hI.cl j hj h2 i m;rw [hun] at this;cases this
            exact (hT j hj).1 O O' _ _ hko (fun x hx=>hget x (fun hd=>(hslot x hd).2 j (hT j hj).2 hne hna hx)) (hI.ts j hj h2)
        · intro j hj h x hx
          rcases hlist j h with rfl | h
          · have hxn:x < rg.size:=by
              have:=qlh.1 (qlh.1 r1 j (qmi.2 hin)) x hx;have:x < j:=by simpa using this
              omega
            have:=haft x hx;rw [getD_tf (by rw [hI.sz];exact hxn)] at this;exact hself x this
          · exact hself x (hI.cl j hj h x hx)
        · rcases hlist j h with rfl | h
          · exact hiS
          · exact hI.only j hj h
        · have key:∀(l:List Nat),l.Nodup→i∈l→(l.filter fun j=> !(listed.setIfInBounds i true).getD j true).length+1=(l.filter fun j=> !listed.getD j true).length:=by
            intro l
            induction l with
            | nil=>intro _ h;cases h
            | cons x l ihl=>
              intro hnd hm;rw [List.nodup_cons] at hnd
              by_cases e:x=i
              · subst e
                have e1:(l.filter fun j=> !(listed.setIfInBounds x true).getD j true)=l.filter fun j=> !listed.getD j true:=
                  List.filter_congr fun j hj=>by rw [getD_set_ne true (fun q:x=j=>hnd.1 (q ▸ hj))]
                rw [qmd,qmd,hselfi,hun,e1];simp
              · have hm':i∈l:=by
                  rcases ql0.1 hm with q | q
                  · exact absurd q.symm e
                  · exact q
                have q:=ihl hnd.2 hm';rw [qmd,qmd,getD_set_ne true (Ne.symm e)];split
                · simp only [List.length_cons];omega
                · exact q
          have:=key S hnd hiS;omega
end
end Go.Vm
namespace Go.Vm
open Go
def tYes:TyG:=fun _ _=>True
theorem tYes_ok {dl:List Nat}:TyOK tYes dl:=fun _ _ _ _ _ _ _=>trivial
def TyOKs:List TyG→List (List Nat)→Prop
  | T::l,d::ds=>TyOK T d∧TyOKs l ds
  | [],[]=>True
  | _,_=>False
theorem TyOKs.get:∀{l:List TyG} {ds:List (List Nat)},TyOKs l ds→∀j,j < l.length→TyOK (l.getD j tYes) (ds.getD j [])∧j < ds.length
  | T::l,d::ds,h,0,_=>⟨h.1,by simp⟩
  | T::l,d::ds,h,j+1,hj=>by
    have:=TyOKs.get h.2 j (by simpa using hj);exact ⟨this.1,by simpa using this.2⟩
  | [],[],_,j,hj=>by simp at hj
  | [],_::_,h,_,_=>h.elim
  | _::_,[],h,_,_=>h.elim
section
variable {P:Program} {L:Lend} {rg:Array Oper} {K:St→Prop} {cv:Int→Int→Blk} {n:Nat} {a0 cm:Int} {T0:TyG} {TL:List TyG}
def OpsOK (P:Program) (L:Lend) (rg:Array Oper) (cv:Int→Int→Blk) (n:Nat) (a0 cm:Int) (T0:TyG) (TL:List TyG):List Nat→Prop
  | []=>True
  | i::l=>(∀o,rg[i]? =some o→OpOK P L rg cv n a0 cm T0 (fun j=>TL.getD j tYes) i o)∧OpsOK P L rg cv n a0 cm T0 TL l
theorem OpsOK.get:∀{l:List Nat},OpsOK P L rg cv n a0 cm T0 TL l→∀i∈l,∀o,rg[i]? =some o→OpOK P L rg cv n a0 cm T0 (fun j=>TL.getD j tYes) i o
  | x::l,h,i,hi,o,ho=>by
    rcases ql0.1 hi with rfl | hi
    · exact h.1 o ho
    · exact h.2.get i hi o ho
theorem ops_nil:OpsOK P L rg cv n a0 cm T0 TL []:=trivial
theorem ops_cons (N:Nat) {i:Nat} {oi:Oper} {rest:List Oper} {l:List Nat} (h:∀env O mask a s,O[0]? =some (cv a s)→(a0≤a∧a≤a0+cm * (N:Int))→T0 O (fun x=>look x env)→(∀j,(aftOf rg i).contains j=true→TL.getD j tYes O (fun x=>look x env))→
    ∀K':St→Prop,(∀s,PostO cv n env mask O a cm oi.dst (TL.getD i tYes) s→K' s)→aStepM P L rg oi ⟨env,O,false,n,mask⟩ K') (t:OpsOK P L rg cv n a0 cm T0 TL l) (hi:rg.toList.drop i=oi::rest:=by rfl) (hN:rg.size=N:=by rfl):OpsOK P L rg cv n a0 cm T0 TL (i::l):=
  ⟨fun o ho=>by
    subst hN;rw [op_at hi] at ho;cases ho;exact fun env O mask a s h1 h2 h3 h4 K' k=>.inl (h env O mask a s h1 h2 h3 (fun j hj=>h4 j (qml.1 hj)) K' k),t⟩
theorem ops_consG (N:Nat) {i j:Nat} {want:Bool} {oi:Oper} {rest:List Oper} {l:List Nat} (h:∀env O mask a s,O[0]? =some (cv a s)→(a0≤a∧a≤a0+cm * (N:Int))→T0 O (fun x=>look x env)→(∀j,(aftOf rg i).contains j=true→TL.getD j tYes O (fun x=>look x env))→
    guardV ⟨env,O,false,n,mask⟩ rg j want=some true∧∀K':St→Prop,(∀s,PostO cv n env mask O a cm oi.dst (TL.getD i tYes) s→K' s)→aExec P L ⟨env,O,false,n,mask⟩ oi fun v s'=>K' (s'.set oi.dst (.opt true v))) (t:OpsOK P L rg cv n a0 cm T0 TL l) (hi:rg.toList.drop i=oi::rest:=by rfl) (hN:rg.size=N:=by rfl) (hg:oi.guard=some (j,want):=by rfl) (hd:dstOK oi.dst n:=by exact ql5 rfl):OpsOK P L rg cv n a0 cm T0 TL (i::l):=
  ⟨fun o ho=>by
    subst hN;rw [op_at hi] at ho;cases ho;exact fun env O mask a s h1 h2 h3 h4 K' k=>let q:=h env O mask a s h1 h2 h3 fun j hj=>h4 j (qml.1 hj);.inr (.inl ⟨hd,j,want,true,hg,q.1,fun _=>q.2 K' k,nofun⟩),t⟩
theorem ops_consP (N:Nat) {i j d:Nat} {want:Bool} {oi:Oper} {rest:List Oper} {l:List Nat} (h:∀env O mask a s,O[0]? =some (cv a s)→(a0≤a∧a≤a0+cm * (N:Int))→T0 O (fun x=>look x env)→(∀j,(aftOf rg i).contains j=true→TL.getD j tYes O (fun x=>look x env))→
    guardV ⟨env,O,false,n,mask⟩ rg j want=some false∧PostO cv n env mask O a cm (some d) (TL.getD i tYes) ⟨(d,.opt false .any)::env,O,false,n,mask⟩) (t:OpsOK P L rg cv n a0 cm T0 TL l) (hi:rg.toList.drop i=oi::rest:=by rfl) (hN:rg.size=N:=by rfl) (hg:oi.guard=some (j,want):=by rfl) (hdd:oi.dst=some d:=by rfl) (hd:dstOK (some d) n:=by exact ql5 rfl):OpsOK P L rg cv n a0 cm T0 TL (i::l):=
  ⟨fun o ho=>by
    subst hN;rw [op_at hi] at ho;cases ho;exact fun env O mask a s h1 h2 h3 h4 K' k=>let q:=h env O mask a s h1 h2 h3 fun j hj=>h4 j (qml.1 hj);.inr (.inl ⟨by rw [hdd];exact hd,j,want,false,hg,q.1,nofun,fun _=>⟨.any,by rw [hdd] at k⊢;exact k _ q.2⟩⟩),t⟩
theorem v_typedX {m:Nat} {Q:AEx→St→Prop} {id:Nat} {env:List (Nat×V)} {O:List Blk} {mask:Nat} {a s:Int} (N:Nat) (cv:Int→Int→Blk) (cm:Int) (S Rq D0:List Nat) (Dp:List (List Nat)) (T0:TyG) (TL:List TyG)
    (hc:O[0]? =some (cv a s)) (h0:TyOK T0 D0) (hT:TyOKs TL Dp) (hs:T0 O (fun x=>look x env)) (ops:OpsOK P L rg cv n a cm T0 TL S)
    (tail:∀K:St→Prop,(∀s t,EqS s t→K s→K t)→(∀s,Q .normal s→K s)→∀u (listed:Array Bool) env O mask a' s',listed.size=rg.size→(∀j,j < rg.size→listed.getD j true=true→j∈S)→(∀j∈Rq,listed.getD j true=true)→(S.filter fun j=> !listed.getD j true).length=u→
      O[0]? =some (cv a' s')→(a≤a'∧a'≤a+cm * (N:Int))→T0 O (fun x=>look x env)→(∀j∈S,listed.getD j true=true→TL.getD j tYes O (fun x=>look x env))→
      aAny P L rg K (rg.size - S.length+u) listed ⟨env,O,false,n,mask⟩)
    (hm:P.follows .mixedOrders=true) (hreg:regOK rg S Rq D0 Dp=true) (hnd:S.Nodup) (hcm:0≤cm) (hl:S.all (Nat.blt · TL.length)=true) (hle:S.length≤N) (hN:rg.size=N) :
    awp P L m (.region id rg true) Q ⟨env,O,false,n,mask⟩:=by
  subst hN;refine v_draw hm fun K hK hk=> ?_
  have lt:∀j∈S,j < rg.size:=fun j hj=>by
    simp only [regOK,Bool.and_eq_true] at hreg;have:=qlh.1 hreg.2 j hj;rw [qlo] at this;simpa using this.1
  have hno:∀j,j < rg.size→(Array.replicate rg.size false).getD j true=false:=fun j hj=>by simp [Array.getD,hj]
  have key:=aAny_typed (P:=P) (L:=L) (rg:=rg) (K:=K) (cv:=cv) (n:=n) (a0:=a) (cm:=cm) S Rq D0 Dp (T0:=T0) (Ts:=fun j=>TL.getD j tYes) hreg hnd hcm h0
    (fun j hj=>hT.get j (by have:=qlh.1 hl j hj;simpa using this)) ops.get (fun u listed env O mask a' s' g1 g2 g3 g4 h1 h2 h3 h4=>tail K hK hk u listed env O mask a' s' g1 g2 g3 g4 h1 h2 h3 h4) S.length 0 (Array.replicate rg.size false) ⟨env,O,false,n,mask⟩
    ⟨⟨env,O,mask,a,s,rfl,hc,Int.le_refl _,by simp⟩,hs,fun j hj h=>by rw [hno j (lt j hj)] at h;(cases h),fun j hj h=>by rw [hno j (lt j hj)] at h;(cases h),by simp,fun j hj h=>by rw [hno j hj] at h;(cases h)⟩
    (by rw [List.filter_eq_self.2 (fun j hj=>by rw [hno j (lt j hj)];rfl)]) (by omega)
  rw [Nat.sub_add_cancel hle] at key;exact key
theorem listed_is {N:Nat} {listed:Array Bool} {S:List Nat} (hsz:listed.size=N) (ho:∀j,j < N→listed.getD j true=true→j∈S) (hall:∀j∈S,listed.getD j true=true):listed=((List.range N).map fun j=>S.contains j).toArray:=by
  apply Array.ext
  · simp [hsz]
  · intro j h1 h2
    have hj:j < N:=by rw [←hsz];exact h1
    have e1:listed.getD j true=listed[j]:=by simp [Array.getD,h1]
    simp only [List.getElem_toArray,List.getElem_map,List.getElem_range];rw [←e1];cases q:listed.getD j true with
    | true=>exact (by simpa using ho j hj q)
    | false=>
      by_cases m:j∈S
      · rw [hall j m] at q;cases q
      · simp [m]
theorem v_typed {m:Nat} {Q:AEx→St→Prop} {id:Nat} {env:List (Nat×V)} {O:List Blk} {mask:Nat} {a s:Int} (N:Nat) (cv:Int→Int→Blk) (cm:Int) (S D0:List Nat) (Dp:List (List Nat)) (T0:TyG) (TL:List TyG)
    (hc:O[0]? =some (cv a s)) (h0:TyOK T0 D0) (hT:TyOKs TL Dp) (hs:T0 O (fun x=>look x env)) (ops:OpsOK P L rg cv n a cm T0 TL S)
    (tail:∀K:St→Prop,(∀s t,EqS s t→K s→K t)→(∀s,Q .normal s→K s)→∀env O mask a' s',O[0]? =some (cv a' s')→(a≤a'∧a'≤a+cm * (N:Int))→T0 O (fun x=>look x env)→(∀j,S.contains j=true→TL.getD j tYes O (fun x=>look x env))→
      aAny P L rg K (N - S.length) ((List.range N).map fun j=>S.contains j).toArray ⟨env,O,false,n,mask⟩)
    (hm:P.follows .mixedOrders=true:=by kernel_rfl) (hreg:regOK rg S S D0 Dp=true:=by kernel_rfl) (hnd:S.Nodup:=by decide) (hcm:0≤cm:=by decide) (hl:S.all (Nat.blt · TL.length)=true:=by rfl) (hle:S.length≤N:=by decide) (hN:rg.size=N:=by rfl) :
    awp P L m (.region id rg true) Q ⟨env,O,false,n,mask⟩:=by
  refine v_typedX N cv cm S S D0 Dp T0 TL hc h0 hT hs ops (fun K hK hk u listed env O mask a' s' g1 g2 g3 g4 h1 h2 h3 h4=> ?_) hm hreg hnd hcm hl hle hN;have e:=listed_is g1 g2 g3;have e0:u=0:=by
    rw [←g4,qlx,List.filter_eq_nil_iff];intro j hj;simp [g3 j hj]
  subst e0;rw [hN] at e⊢;rw [e];exact tail K hK hk env O mask a' s' h1 h2 h3 fun j hj=>h4 j (qml.1 hj) (g3 j (qml.1 hj))
theorem v_typed1 {m:Nat} {Q:AEx→St→Prop} {id:Nat} {env:List (Nat×V)} {O:List Blk} {mask:Nat} {a s:Int} (N:Nat) (cv:Int→Int→Blk) (cm:Int) (f:Nat) (S D0:List Nat) (Dp:List (List Nat)) (T0:TyG) (TL:List TyG)
    (hc:O[0]? =some (cv a s)) (h0:TyOK T0 D0) (hT:TyOKs TL Dp) (hs:T0 O (fun x=>look x env)) (ops:OpsOK P L rg cv n a cm T0 TL (f::S))
    (tail:∀K:St→Prop,(∀s t,EqS s t→K s→K t)→(∀s,Q .normal s→K s)→∀env O mask a' s',O[0]? =some (cv a' s')→(a≤a'∧a'≤a+cm * (N:Int))→T0 O (fun x=>look x env)→(∀j,S.contains j=true→TL.getD j tYes O (fun x=>look x env))→
      (TL.getD f tYes O (fun x=>look x env)→aAny P L rg K (N - (S.length+1)) ((List.range N).map fun j=>(f::S).contains j).toArray ⟨env,O,false,n,mask⟩)∧aAny P L rg K (N - (S.length+1)+1) ((List.range N).map fun j=>S.contains j).toArray ⟨env,O,false,n,mask⟩)
    (hm:P.follows .mixedOrders=true:=by kernel_rfl) (hreg:regOK rg (f::S) S D0 Dp=true:=by kernel_rfl) (hnd:(f::S).Nodup:=by decide) (hcm:0≤cm:=by decide) (hl:(f::S).all (Nat.blt · TL.length)=true:=by rfl) (hle:(f::S).length≤N:=by decide) (hN:rg.size=N:=by rfl) :
    awp P L m (.region id rg true) Q ⟨env,O,false,n,mask⟩:=by
  refine v_typedX N cv cm (f::S) S D0 Dp T0 TL hc h0 hT hs ops (fun K hK hk u listed env O mask a' s' g1 g2 g3 g4 h1 h2 h3 h4=> ?_) hm hreg hnd hcm hl hle hN;have ht:=tail K hK hk env O mask a' s' h1 h2 h3 fun j hj=>h4 j (qlg _ (qml.1 hj)) (g3 j (qml.1 hj))
  have hS:(S.filter fun j=> !listed.getD j true)=[]:=by
    rw [List.filter_eq_nil_iff];intro j hj;simp [g3 j hj]
  rw [hN] at g1 g2⊢;rw [qmd,hS] at g4;cases q:listed.getD f true with
  | true=>
    rw [q] at g4;have e0:u=0:=by rw [←g4];rfl
    subst e0;rw [listed_is g1 g2 fun j hj=>by
      rcases ql0.1 hj with rfl | hj
      · exact q
      · exact g3 j hj]
    exact ht.1 (h4 f (qle ..) q)
  | false=>
    rw [q] at g4;have e0:u=1:=by rw [←g4];rfl
    subst e0;rw [listed_is g1 (fun j hj hlx=>by
      rcases ql0.1 (g2 j hj hlx) with e | hj
      · rw [e,q] at hlx;cases hlx
      · exact hj) g3]
    exact ht.2
theorem postN {env:List (Nat×V)} {mask:Nat} {O:List Blk} {a s cm:Int} {d:Nat} {v:V} {T:TyG} (hc:O[0]? =some (cv a s)) (hcm:0≤cm) (h:T O (fun x=>look x ((d,v)::env))):PostO cv n env mask O a cm (some d) T ⟨(d,v)::env,O,false,n,mask⟩:=
  ⟨v,O,a,s,rfl,KeepO.refl _,hc,Int.le_refl _,by omega,h⟩
theorem postA {env:List (Nat×V)} {mask:Nat} {O new:List Blk} {a s cm:Int} {d:Nat} {v:V} {T:TyG} (hc:O[0]? =some (cv a s)) (hcm:0≤cm) (h:T (O++new) (fun x=>look x ((d,v)::env))):PostO cv n env mask O a cm (some d) T ⟨(d,v)::env,O++new,false,n,mask⟩:=
  ⟨v,O++new,a,s,rfl,KeepO.app,Grow.app O new 0 _ hc,Int.le_refl _,by omega,h⟩
theorem get0 {O:List Blk} {b c:Blk} (hc:O[0]? =some b):(O.set 0 c)[0]? =some c:=by
  rw [qlj (qlc.1 hc).1]
theorem postD {env:List (Nat×V)} {mask:Nat} {O:List Blk} {a s a' s' cm:Int} {d:Nat} {v:V} {T:TyG} (hc:O[0]? =some (cv a s)) (hb:a≤a'∧a'≤a+cm) (h:T (O.set 0 (cv a' s')) (fun x=>look x ((d,v)::env))):PostO cv n env mask O a cm (some d) T ⟨(d,v)::env,O.set 0 (cv a' s'),false,n,mask⟩:=
  ⟨v,_,a',s',rfl,by have:=KeepO.set0 (O:=O) (new:=[]) (b:=cv a' s');simpa using this,get0 hc,hb.1,hb.2,h⟩
theorem postE {env:List (Nat×V)} {mask:Nat} {O new:List Blk} {a s a' s' cm:Int} {d:Nat} {v:V} {T:TyG} (hc:O[0]? =some (cv a s)) (hb:a≤a'∧a'≤a+cm) (h:T (O.set 0 (cv a' s')++new) (fun x=>look x ((d,v)::env))):PostO cv n env mask O a cm (some d) T ⟨(d,v)::env,O.set 0 (cv a' s')++new,false,n,mask⟩:=
  ⟨v,_,a',s',rfl,KeepO.set0,Grow.app _ new 0 _ (get0 hc),hb.1,hb.2,h⟩
theorem postT {env:List (Nat×V)} {mask:Nat} {O:List Blk} {a s a' s' cm:Int} {d i:Nat} {b:Blk} {v:V} {T:TyG} (hc:O[0]? =some (cv a s)) (hi:O[i]? =some b) (hn:i≠0) (hb:a≤a'∧a'≤a+cm) (h:T ((O.set 0 (cv a' s')).set i b) (fun x=>look x ((d,v)::env))):PostO cv n env mask O a cm (some d) T ⟨(d,v)::env,(O.set 0 (cv a' s')).set i b,false,n,mask⟩:=
  ⟨v,_,a',s',rfl,by have:=KeepO.set1 (O:=O) (new:=[]) (b:=cv a' s') hi;simpa using this,by rw [qlq hn];exact get0 hc,hb.1,hb.2,h⟩
end
mutual
theorem ren_ren {f g:Nat→Nat}:∀v:V,(v.ren f).ren g=v.ren (fun i=>g (f i))
  | .int _ _ | .bool _ | .str _ | .nsl | .sl _ | .pv _ _ _ | .npt | .nfn | .any | .ref _ | .sub _ _ _ | .ptr _ _ _=>by simp only [V.ren]
  | .fn _ cs=>by simp only [V.ren,ren_renL cs]
  | .agg cs=>by simp only [V.ren,ren_renL cs]
  | .tup cs=>by simp only [V.ren,ren_renL cs]
  | .opt _ v=>by simp only [V.ren,ren_ren v]
theorem ren_renL {f g:Nat→Nat}:∀l:List V,V.renL g (V.renL f l)=V.renL (fun i=>g (f i)) l
  | []=>by simp only [V.renL]
  | v::l=>by simp only [V.renL,ren_ren v,ren_renL l]
end
mutual
theorem only_ren {f:Nat→Nat} {p q:Nat→Bool} (h:∀i,p i=true→q (f i)=true):∀v:V,v.only p=true→(v.ren f).only q=true
  | .int _ _,_ | .bool _,_ | .str _,_ | .nsl,_ | .sl _,_ | .pv _ _ _,_ | .npt,_ | .nfn,_ | .any,_=>by simp [V.ren,V.only]
  | .ref i,hp | .sub i _ _,hp | .ptr i _ _,hp=>by rw [V.only] at hp;rw [V.ren,V.only];exact h i hp
  | .fn _ cs,hp | .agg cs,hp | .tup cs,hp=>by rw [V.only] at hp;rw [V.ren,V.only];exact only_renL h cs hp
  | .opt _ v,hp=>by rw [V.only] at hp;rw [V.ren,V.only];exact only_ren h v hp
theorem only_renL {f:Nat→Nat} {p q:Nat→Bool} (h:∀i,p i=true→q (f i)=true):∀l:List V,V.onlyL p l=true→V.onlyL q (V.renL f l)=true
  | [],_=>by simp only [V.renL,V.onlyL]
  | v::l,hp=>by
    rw [V.onlyL,qlo] at hp;rw [V.renL,V.onlyL,only_ren h v hp.1,only_renL h l hp.2];rfl
end
def BkAll (ρ:Nat→Nat) (O:List Blk):List Nat→List Blk→Prop
  | i::is,b::bs=>O[i]? =some (b.renM ρ)∧BkAll ρ O is bs
  | [],[]=>True
  | _,_=>False
theorem BkAll.get {ρ:Nat→Nat} {O:List Blk}:∀{is:List Nat} {bs:List Blk},BkAll ρ O is bs→∀j b,bs[j]? =some b→O[is.getD j 0]? =some (b.renM ρ)
  | i::is,b::bs,h,0,c,e=>by simp at e;subst e;exact h.1
  | i::is,b::bs,h,j+1,c,e=>by
    have:=BkAll.get h.2 j c (by simpa using e);simpa using this
  | [],[],_,j,c,e=>by simp at e
  | _::_,[],h,_,_,_=>h.elim
  | [],_::_,h,_,_,_=>h.elim
theorem weak_mask {m:Nat} {s:St} {x:Nat}:Weak m s {s with mask:=x}:=fun _ _ _ μ ow _ h=>⟨μ,ow,h.dfr,h.sz,h.env,h.blk,h.dom,h.owl,h.own,h.frm,h.mu⟩
theorem weak_op {m n mask mask':Nat} {vw:Bool} {env:List (Nat×V)} {O:List Blk} (env':List (Nat×V)) (O':List Blk) (ids:List Nat) (hn:ids.Nodup) (hm:∀j,j < m→ids[j]? =some j) (hl:O'.length=ids.length)
    (he:∀p∈env',look p.1 env=p.2.ren (fun j=>ids.getD j 0)) (hk:(env'.map (·.1)).Nodup) (ho:∀p∈env',p.2.only (Nat.blt · ids.length)=true)
    (hba:BkAll (fun j=>ids.getD j 0) O ids O') (hbo:∀b∈O',b.onlyM (Nat.blt · ids.length)=true):Weak m ⟨env,O,vw,n,mask⟩ ⟨env',O',vw,n,mask'⟩:=by
  refine weak_trans ?_ (weak_mask (s:=⟨env',O',vw,n,mask⟩));have hb:=hba.get;have inv:∀j,Nat.blt j ids.length=true→(idx ids (ids.getD j 0)).getD 0=j∧(idx ids (ids.getD j 0)).isSome=true:=fun j hj=>by
    have hj':j < ids.length:=by simpa using hj
    have e:ids[j]? =some (ids.getD j 0):=by simp [List.getD_eq_getElem?_getD,hj']
    rw [idx_get hn e];exact ⟨rfl,rfl⟩
  have back:∀v:V,v.only (Nat.blt · ids.length)=true→(v.ren fun j=>ids.getD j 0).ren (fun id=>(idx ids id).getD 0)=v:=fun v hv=>by
    rw [ren_ren];exact ren_only (fun j hj=>(inv j hj).1) hv
  have backL:∀l:List V,V.onlyL (Nat.blt · ids.length) l=true→V.renL (fun id=>(idx ids id).getD 0) (V.renL (fun j=>ids.getD j 0) l)=l:=fun l hv=>by
    rw [ren_renL];exact ren_onlyL (fun j hj=>(inv j hj).1) hv
  have hO:∀id∈ids,∃j b,ids.getD j 0=id∧O'[j]? =some b∧O[id]? =some (b.renM fun j=>ids.getD j 0):=fun id hid=>by
    obtain ⟨j,hj,e⟩:=List.getElem_of_mem hid;have ej:ids.getD j 0=id:=by simp [List.getD_eq_getElem?_getD,hj,e]
    have hb':=hb j O'[j] (qla (by omega));exact ⟨j,_,ej,qla (by omega),by rw [←ej];exact hb'⟩
  refine weak_bothM (env'.map (·.1)) ids hn hm (fun p hp=> ?_) (fun id hid bk e=> ?_) ?_
  · simp only [St.keep,List.mem_map] at hp
    obtain ⟨x,⟨q,hq,rfl⟩,rfl⟩:=hp;show (look q.1 env).only _=true;rw [he q hq];exact only_ren (fun j hj=>(inv j hj).2) _ (ho q hq)
  · obtain ⟨j,b,e1,e2,e3⟩:=hO id hid
    rw [show O[id]? =some bk from e] at e3;obtain rfl:=Option.some.inj e3;have hbb:=hbo b (qlb e2);cases b with
    | dead=>rfl
    | hid j' n'=>simp [Blk.onlyM] at hbb
    | arr xs k=>
      simp only [Blk.renM,Blk.onlyM,Bool.or_eq_true,Bool.not_eq_true'] at hbb⊢;rcases hbb with q | q
      · exact .inl q
      · cases hk:k.isMix with
        | false=>exact .inl rfl
        | true=>exact .inr (only_renL (fun j hj=>(inv j hj).2) _ q)
    | box x k=>
      simp only [Blk.renM,Blk.onlyM,Bool.or_eq_true,Bool.not_eq_true'] at hbb⊢;rcases hbb with q | q
      · exact .inl q
      · cases hk:k.isMix with
        | false=>exact .inl rfl
        | true=>exact .inr (only_ren (fun j hj=>(inv j hj).2) _ q)
  · have h1 : ((env'.map (·.1)).map fun t=>(t,look t env)).map (fun p=>(p.1,p.2.ren fun id=>(idx ids id).getD 0))=env':=by
      rw [List.map_map,List.map_map];refine (List.map_congr_left fun p hp=> ?_).trans (List.map_id env');show (p.1,(look p.1 env).ren _)=p;rw [he p hp,back _ (ho p hp)]
    have h2 : (ids.map fun id=>(O.getD id .dead).renM fun id=>(idx ids id).getD 0)=O':=by
      apply List.ext_getElem?;intro j;rw [List.getElem?_map];rcases qly j ids.length with hj | hj
      · have e2:O'[j]? =some O'[j]:=qla (by omega)
        have hb':=hb j _ e2;have e:ids[j]? =some (ids.getD j 0):=by simp [List.getD_eq_getElem?_getD,hj]
        rw [e,e2,Option.map_some,qld,hb'];have hbb:=hbo O'[j] (List.getElem_mem (by omega))
        congr 1
        generalize O'[j]=b at hbb;cases b with
        | dead=>rfl
        | hid j' n'=>simp [Blk.onlyM] at hbb
        | arr xs k=>
          simp only [Option.getD_some,Blk.renM,Blk.onlyM,Bool.or_eq_true,Bool.not_eq_true'] at hbb⊢;cases hk:k.isMix with
          | false=>rfl
          | true=>
            rcases hbb with q | q
            · rw [hk] at q;cases q
            · simp only [cond_true];rw [backL _ q]
        | box x k=>
          simp only [Option.getD_some,Blk.renM,Blk.onlyM,Bool.or_eq_true,Bool.not_eq_true'] at hbb⊢;cases hk:k.isMix with
          | false=>rfl
          | true=>
            rcases hbb with q | q
            · rw [hk] at q;cases q
            · simp only [cond_true];rw [back _ q]
      · rw [qlp hj,qlp (by omega)];rfl
    have e:∀(a a':List (Nat×V)) (b b':List Blk),a=a'→b=b'→(⟨a,b,vw,n,mask⟩:St)=⟨a',b',vw,n,mask⟩:=by intros;subst_vars;rfl
    exact e _ _ _ _ h1 h2
theorem ge_of {O:List Blk} {b:Blk} {k:Nat} (h:O[k]? =some b):k+1≤O.length:=(qlc.1 h).1
theorem ne_kind {O:List Blk} {i j:Nat} {b c:Blk} (h1:O[i]? =some b) (h2:O[j]? =some c) (h:b≠c):i≠j:=fun e=>h (by rw [e,h2] at h1;exact (Option.some.inj h1).symm)
theorem beq_ne {a b:Nat} (h:a≠b):Nat.beq a b=false:=by
  cases q:Nat.beq a b with
  | false=>rfl
  | true=>exact absurd (Nat.eq_of_beq_eq_true q) h
end Go.Vm
namespace Go.Vm
open Go
theorem weak_revive {m:Nat} {s:St} (id j:Nat) (xs ys:List V) (hO:s.O[id]? =some (.hid j xs.length)) (hj:s.O[j]? =some (.arr (xs++ys) .flat)):Weak m s {s with O:=(s.O.set id (.arr xs .flat)).set j .dead}:=by
  intro cx a w μ ow hmu h;obtain ⟨l,l',q1,q2,q3,q4,q5,q6,q7,q8,q9,q10,q11⟩:=h.blk id _ hO;obtain ⟨l2,r1,r2,r3⟩:=h.blk j _ hj;rw [q2] at r1;cases r1;have hne:xs≠[]:=List.length_pos_iff.1 q4;rcases r3 with ⟨r3,_⟩ | ⟨r3,r4,bl,r5,r6,r7⟩
  · rw [q7] at r3;cases r3
  have hb0:bl=[]:=r6;subst hb0;have r5:Cells w M0 l' (xs++ys) []:=r5;rw [q8] at r4;have hij:id≠j:=fun e=>by rw [e,hj] at hO;cases hO
  have hidl:id < s.O.length:=(qlc.1 hO).1;have hjl:j < s.O.length:=(qlc.1 hj).1;let ow':Ow:=fun b=>if b=l.b then some (true,id) else ow b
  have hview:∀b,VOK cx ow s.vw b→ow' b=ow b:=fun b hv=>by
    have:b≠l.b:=fun e=>by subst e;exact hv.not_root r4
    simp [ow',this]
  refine ⟨μ,ow',h.dfr,h.sz,fun t=> ?_,fun i bk e=> ?_,fun i hi=> ?_,fun b hb=> ?_,fun b hb=> ?_,h.frm,h.mu⟩
  · obtain ⟨bt,k1,k2⟩:=h.env t
    exact ⟨bt,k1,fun b hb=>(k2 b hb).mono (hview b (k2 b hb)) (fun q=>q)⟩
  · have e:((s.O.set id (.arr xs .flat)).set j .dead)[i]? =some bk:=e
    rw [List.getElem?_set] at e
    by_cases hji:j=i
    · subst hji
      rw [if_pos rfl,if_pos (by rw [qln];exact hjl)] at e;cases e;trivial
    rw [if_neg hji,List.getElem?_set] at e
    by_cases hii:id=i
    · subst hii
      rw [if_pos rfl,if_pos hidl] at e;cases e;obtain ⟨c1,c2,c3,c,t,vs,c4,c5,c6,c7,c8⟩:=r5;rw [List.flatMap_append] at c6;obtain ⟨x1,x2,b1,b2,ev,eb,rp,_⟩:=RepL.split _ _ c6;have hb1:b1=[]:=(List.append_eq_nil_iff.1 eb.symm).1;subst hb1;refine ⟨l,q1,q3,.inr ⟨q6,by simp [ow'],[],⟨by omega,by omega,fun x hx=>by rw [c3 x (qmc _ hx),q10],c,t,x1,by rw [←q8];exact c4,by rw [←q9,←q10,←q11];exact c5,rp,fun v hv=>c7 v (by rw [ev];exact qmc _ hv),fun k x hk=> ?_⟩,rfl,fun _=>hne⟩⟩;rw [←q9];refine c8 k x ?_;rw [ev,qlv (by
        rcases qly k x1.length with z | z
        · exact z
        · rw [qlp z] at hk;cases hk)]
      exact hk
    · rw [if_neg hii] at e
      refine (h.blk i bk e).keep (MLe.refl _) (fun q=>q) fun b _ hc=>⟨rfl,?_⟩
      have:b≠l.b:=fun q=>by
        subst q;rcases hc with z | z | z
        · rw [r4] at z;cases z;exact hji rfl
        · rw [r4] at z;cases z
        · exact z.not_root r4
      simp [ow',this]
  · exact h.dom i (by have hi:((s.O.set id (.arr xs .flat)).set j .dead).length≤i:=hi;rwa [qln,qln] at hi)
  · by_cases q:b=l.b
    · subst q;exact h.owl _ (by rw [r4];simp)
    · simp only [ow',q,if_false] at hb;exact h.owl b hb
  · by_cases q:b=l.b
    · subst q;exact h.own _ (by rw [r4];simp)
    · simp only [ow',q,if_false] at hb;exact h.own b hb
end Go.Vm
namespace Go.Vm
open Go
theorem con_of_awpSW {P:Program} {f:FuncId} {fn:Func} {c:Code} {args:List V} {O O':List Blk} (L:Lend) (hf:P.funcs[f]? =some fn) (hname:(fn.name == "runtime.NumGoroutine")=false)
    (hb:fn.body=some c) (hts:fn.results=#[]) (hn:args.length≤fn.ntmps) {s1:St} (hweak:Weak O.length ⟨envFrom 0 args,O,false,fn.ntmps,0⟩ s1)
    (h:awp P L O.length c (fun e s=>match e with | .exit _=>False | _=>∃s2,Weak O.length s s2∧s2.O=O'∧s2.vw=false) s1):ConS P f args O O':=by
  refine ⟨⟨fn,hf,hname,by rw [hb];rfl⟩,fun w vals μ ow vis hi=> ?_⟩;refine calls_of_wp hf hb ?_;let cx:Cx:=⟨w,fun b=>ow b≠none,vis,μ,tabsOf P⟩;have hrel:Rel cx ⟨envFrom 0 args,O,false,fn.ntmps,0⟩ {tmps:=vals++Array.replicate (fn.ntmps - vals.size) undef,defers:=[]} w μ ow:=by
    refine ⟨rfl,?_,fun t=> ?_,fun id bk e=>(hi.blk id bk e).tabs,hi.dom,hi.owl,fun b hb=>.inl hb,⟨qlu _,fun _ _ _=>rfl,rfl,rfl,rfl,fun _ _=>rfl,fun p hp=>⟨fun q=>q (hi.tab p hp).1,(hi.tab p hp).2⟩⟩,MLe.refl _⟩
    · have:=hi.sz
      simp only [Array.size_append,Array.size_replicate];omega
    · show ∃bl,Rep w μ (look t (envFrom 0 args)) _ bl∧_
      rw [look_envFrom args 0 t (qlk _),Nat.sub_zero];cases e:args[t]? with
      | none=>
        rw [qld,e];exact ⟨[],.any _,by simp⟩
      | some v=>
        rw [qld,e];obtain ⟨bl,r1,r2⟩:=hi.arg t v e;have ht:t < vals.size:=by
          rw [hi.sz];rcases qly t args.length with q | q
          · exact q
          · rw [qlp q] at e;cases e
        have hslot:(vals++Array.replicate (fn.ntmps - vals.size) undef).getD t undef=vals.getD t undef:=by
          rw [ql9,ql9,Array.getElem?_append_left ht]
        exact ⟨bl,by rw [hslot];exact r1,fun b hb=>⟨.inl (r2 b hb).1,.inl (r2 b hb).2⟩⟩
  have hpost:∀(s':St) (a':Act) (w':World) (μ':Nat→Option Loc) (ow':Ow),Rel cx s' a' w' μ' ow'→(∃s2,Weak O.length s' s2∧s2.O=O'∧s2.vw=false)→
      a'.defers=[]∧∃v,(results fn a'.tmps).run P w'=.ok v w'∧∃v2 μ2 ow2,Ending.returned v=.returned v2∧(∀id bk,O'[id]? =some bk→BlkOK ⟨w,fun b=>ow b≠none,vis,μ,[]⟩ w' μ2 ow2 false id bk)∧MLe μ μ2∧
      (∀id,O'.length≤id→μ2 id=none)∧(∀b,ow2 b≠none→Live w' b)∧(∀b,ow2 b≠none→ow b≠none∨w.heap.size≤b)∧Frame ⟨w,fun b=>ow b≠none,vis,μ,[]⟩ w':=by
    intro s' a' w' μ' ow' hr ⟨s2,hw,hO,hv⟩;obtain ⟨μ2,ow2,hr2⟩:=hw cx a' w' μ' ow' hi.dom hr;have hblk:∀id bk,O'[id]? =some bk→BlkOK cx w' μ2 ow2 false id bk:=fun id bk e=>by
      have:=hr2.blk id bk (by rw [hO];exact e);rw [hv] at this;exact this
    obtain ⟨xs,_,_,_,hrun,_⟩:=run_results (K:=fun _ _=>True) [] hts hr2 trivial;refine ⟨hr.dfr,_,hrun,_,μ2,ow2,rfl,fun id bk e=>(hblk id bk e).tabs,?_,fun id hid=>hr2.dom id (by rw [hO];exact hid),hr2.owl,hr2.own,hr2.frm.tabs⟩;exact hr2.mu
  obtain ⟨μ1,ow1,hrel1⟩:=hweak cx _ w μ ow hi.dom hrel;refine awp_sound (cx:=cx) rfl hi.dom c hrel1 h fun e s' a' w' μ' ow' hr hq=> ?_
  cases e with
  | exit id=>exact hq.elim
  | normal=>exact hpost s' a' w' μ' ow' hr hq
  | ret=>exact hpost s' a' w' μ' ow' hr hq
end Go.Vm
namespace Go.Vm
open Go
section
variable {w:World} {μ:Nat→Option Loc}
end
theorem v_conS {P:Program} {f:FuncId} {fn:Func} {c:Code} {args:List V} {O O':List Blk} (L:Lend) (hf:P.funcs[f]? =some fn) (hname:(fn.name == "runtime.NumGoroutine")=false)
    (hb:fn.body=some c) (hts:fn.results=#[]) (hn:args.length≤fn.ntmps) (s1:St) (hweak:Weak O.length ⟨envFrom 0 args,O,false,fn.ntmps,0⟩ s1)
    (h:∀Q:AEx→St→Prop,(∀s s2,Weak O.length s s2→s2.O=O'∧s2.vw=false→Q .normal s)→(∀s s2,Weak O.length s s2→s2.O=O'∧s2.vw=false→Q .ret s)→awp P L O.length c Q s1):ConS P f args O O':=
  con_of_awpSW L hf hname hb hts hn hweak (h (fun e s=>match e with | .exit _=>False | _=>∃s2,Weak O.length s s2∧s2.O=O'∧s2.vw=false) (fun s s2 hw q=>⟨s2,hw,q⟩) (fun s s2 hw q=>⟨s2,hw,q⟩))
section
variable {P:Program} {L:Lend} {s:St}
theorem aAny_onlyK {rg:Array Oper} {K:St→Prop} (i:Nat) {oi:Oper} {rest:List Oper} {fuel:Nat} {listed:Array Bool} (hi:rg.toList.drop i=oi::rest) (hr:Region.ready .any rg listed=[i]) (hd:dstOK oi.dst s.n) (hg:oi.guard=none)
    (h:∀K':St→Prop,(∀s,aAny P L rg K fuel (listed.setIfInBounds i true) s→K' s)→aKeepOp P s oi fun v s'=>K' (s'.set oi.dst v)):aAny P L rg K (fuel+1) listed s:=by
  refine ⟨fun h0=>(by rw [hr] at h0;cases h0),fun j hj o ho=> ?_⟩;rw [hr,qli] at hj;subst hj;rw [op_at hi] at ho;cases ho;exact .inr (.inr ⟨hd,hg,h _ fun _ h=>h⟩)
theorem aAny_twoK {rg:Array Oper} {K:St→Prop} (i i':Nat) {oi oi':Oper} {rest rest':List Oper} {fuel:Nat} {listed:Array Bool} (hi:rg.toList.drop i=oi::rest) (hi':rg.toList.drop i'=oi'::rest') (hr:Region.ready .any rg listed=[i,i'])
    (hd:dstOK oi'.dst s.n) (hg:oi'.guard=none) (h:∀K':St→Prop,(∀s,aAny P L rg K fuel (listed.setIfInBounds i true) s→K' s)→aStepM P L rg oi s K')
    (h':∀K':St→Prop,(∀s,aAny P L rg K fuel (listed.setIfInBounds i' true) s→K' s)→aKeepOp P s oi' fun v s'=>K' (s'.set oi'.dst v)):aAny P L rg K (fuel+1) listed s:=by
  refine ⟨fun h0=>(by rw [hr] at h0;cases h0),fun j hj o ho=> ?_⟩;rw [hr] at hj;rcases ql0.1 hj with e | hj
  · subst e
    rw [op_at hi] at ho;cases ho;exact .inl (h _ fun _ h=>h)
  · rw [qli] at hj
    subst hj;rw [op_at hi'] at ho;cases ho;exact .inr (.inr ⟨hd,hg,h' _ fun _ h=>h⟩)
theorem aCall_self {f:FuncId} {ls:List Nat} {args args':List V} {Ols O':List Blk} {K:V→St→Prop} (p:Nat) (hc:ConS P f args' Ols O') (hv:s.vw=false) (ht:toArgs s ls args=some args') (hO:ls.mapM (fun id=>s.O[id]?)=some Ols) (hn:ls.Nodup)
    (hp:∀j:Nat,j < p→ls[j]? =some j) (h1:∀bk∈Ols,bk.okS p=true) (hl:O'.length=ls.length) (h2:∀bk∈O',bk.okS p=true) (hcl:∀x∈args,x.coldIn ls=true) (hk:K .any {s with O:=setBlks s.O ls O'}):aCall P s f ls args K:=
  .inl ⟨hv,p,args',Ols,O',ht,hO,hn,hp,h1,hl,h2,hcl,hc,hk⟩
end
theorem weak_outB {m:Nat} {s:St} (id:Nat) (ys:List V) (kd:Kd) (hO:s.O[id]? =some (.box (slN ys) .deep)) (h0:ys=[]→kd=.flat) (h1:ys≠[]→kd=.deep∨(kd=.flat∧ys.all V.noSl=true)) (hv:s.vw=false) :
    Weak m s {s with O:=s.O.set id (.box (.ref s.O.length) .mix)++[.arr ys kd]}:=by
  have hz:∀{u v:V},u.cells.length=v.cells.length→∀n,(∀x∈[u],x.cells.length=n)→∀x∈[v],x.cells.length=n:=by
    intro u v e n hn x hx;rw [qli.1 hx,←e];exact hn u (qli.2 rfl)
  have hid:id < s.O.length:=(qlc.1 hO).1;have hd:id < (s.O.set id (.box (.ref s.O.length) .part)).length:=by rw [qln];exact hid
  have h3:(s.O.set id (.box (.ref s.O.length) .part)++[.arr ys kd])[id]? =some (.box (.ref s.O.length) .part):=by
    rw [qlv hd];exact qlj hid
  have e3:(s.O.set id (.box (.ref s.O.length) .part)++[Blk.arr ys kd]).set id (.box (.ref s.O.length) .mix)=s.O.set id (.box (.ref s.O.length) .mix)++[.arr ys kd]:=by
    rw [List.set_append_left _ _ hd,List.set_set]
  have h4:=weak_pm (m:=m) (s:={s with O:=s.O.set id (.box (.ref s.O.length) .part)++[.arr ys kd]}) id _ _ [.ref s.O.length] h3 (.inr ⟨_,_,rfl,rfl,rfl,rfl⟩) rfl
  rw [←e3];refine weak_trans ?_ h4;cases ys with
  | nil=>
    rw [h0 rfl];exact weak_outN id _ _ [.nsl] [.ref s.O.length] [] [] .deep hO (.inr ⟨_,_,rfl,rfl,rfl,rfl⟩) (.inl rfl) rfl rfl rfl (hz rfl)
  | cons y l=>exact weak_out id _ _ [.sl (y::l)] [.ref s.O.length] (y::l) [] [] .deep kd hO (.inr ⟨_,_,rfl,rfl,rfl,rfl⟩) (.inl rfl) rfl rfl rfl (hz rfl) (by simp) (h1 (by simp)) hv
theorem weak_inB {m:Nat} {s:St} (id j:Nat) (ys:List V) (k kd:Kd) (hO:s.O[id]? =some (.box (.ref j) k)) (hk:k=.part∨k=.mix) (hj:s.O[j]? =some (.arr ys kd)) (hne:id≠j) (hkd:kd=.flat∨kd=.deep) :
    Weak m s {s with O:=(s.O.set id (.box (slN ys) .deep)).set j .dead}:=by
  have hz:∀{u v:V},u.cells.length=v.cells.length→∀n,(∀x∈[u],x.cells.length=n)→∀x∈[v],x.cells.length=n:=by
    intro u v e n hn x hx;rw [qli.1 hx,←e];exact hn u (qli.2 rfl)
  have hid:id < s.O.length:=(qlc.1 hO).1;refine weak_trans (t:={s with O:=s.O.set id (.box (.ref j) .part)}) ?_ ?_
  · rcases hk with rfl | rfl
    · refine weak_eq _ ?_
      have:s.O.set id (.box (.ref j) .part)=s.O:=by
        apply List.ext_getElem?;intro q;rw [List.getElem?_set];split
        · rename_i e;subst e;exact hO.symm
        · rfl
      rw [this]
    · exact weak_mp id _ _ [.ref j] hO (.inr ⟨_,_,rfl,rfl,rfl,rfl⟩) rfl
  have h1:(s.O.set id (.box (.ref j) .part))[id]? =some (.box (.ref j) .part):=qlj hid;have h2:(s.O.set id (.box (.ref j) .part))[j]? =some (.arr ys kd):=by rw [qlq hne];exact hj
  have e3:((s.O.set id (.box (.ref j) .part)).set id (.box (slN ys) .part)).set j .dead=(s.O.set id (.box (slN ys) .part)).set j .dead:=by rw [List.set_set]
  refine weak_trans (t:={s with O:=(s.O.set id (.box (slN ys) .part)).set j .dead}) ?_ ?_
  · rw [←e3]
    cases ys with
    | nil=>exact weak_inN (s:={s with O:=s.O.set id (.box (.ref j) .part)}) id j _ _ [.ref j] [.nsl] [] [] kd h1 h2 hne (.inr ⟨_,_,rfl,rfl,rfl,rfl⟩) (by rcases hkd with e | e<;>subst e<;>simp) rfl rfl rfl (hz rfl)
    | cons y l=>exact weak_in (s:={s with O:=s.O.set id (.box (.ref j) .part)}) id j _ _ [.ref j] [.sl (y::l)] (y::l) [] [] kd h1 h2 hne (.inr ⟨_,_,rfl,rfl,rfl,rfl⟩) (hkd.imp (fun q=>q) .inl) rfl rfl rfl (hz rfl)
  · have h3:((s.O.set id (.box (slN ys) .part)).set j .dead)[id]? =some (.box (slN ys) .part):=by rw [qlq (Ne.symm hne)];exact qlj hid
    have e4:((s.O.set id (.box (slN ys) .part)).set j .dead).set id (.box (slN ys) .deep)=(s.O.set id (.box (slN ys) .deep)).set j .dead:=by
      rw [List.set_comm _ _ (Ne.symm hne),List.set_set]
    have:=weak_dp (m:=m) (s:={s with O:=(s.O.set id (.box (slN ys) .part)).set j .dead}) id _ _ [slN ys] h3 (.inr ⟨_,_,rfl,rfl,rfl,rfl⟩) (by cases ys<;>rfl)
    rw [←e4];exact this
end Go.Vm
namespace Go.Vm
open Go
theorem zPs {A B:Prop} (b:Ho B) (e:Ho B→A:=by
  intro b;refine v_passB rfl rfl rfl ?_ ?_
  · first | rfl | (simp only [zV,guardV,Nat.reduceEqDiff,reduceIte];done)
  simp only [zW,set_some,Nat.reduceEqDiff,reduceIte];exact b.h):A:=e b
theorem ztMove {A B:Prop} (b:Ho B) (e:Ho B→A:=by
  intro b;refine v_opT _ _ rfl (by first | rfl | (simp only [zV,guardV,Nat.reduceEqDiff,reduceIte];done)) (ql5 rfl) ?_;intro K k;simp only [zE,aStepM,optable,set_some,Nat.reduceEqDiff,reduceIte,Nat.reduceLT,implies_true,forall_const,reduceCtorEq,V.ofValue,V.ofScalar,V.un,V.gd,aExec,aop,contentL,Value.oneCell',List.all_cons,List.all_nil,Bool.and_self,‹Tys _›.h,‹Fc _›.h];repeat (refine andA ?_)
  refine k _ ?_;clear k K;exact b.h):A:=e b
theorem ztLoad {A B:Prop} (b:Ho B) (e:Ho B→A:=by
  intro b;refine v_opT _ _ rfl (by first | rfl | (simp only [zV,guardV,Nat.reduceEqDiff,reduceIte];done)) (ql5 rfl) ?_;intro K k;simp only [zE,zL,zO,zN,aStepM,optable,set_some,Nat.reduceEqDiff,reduceIte,Nat.reduceLT,implies_true,forall_const,reduceCtorEq,V.ofValue,V.ofScalar,V.un,V.gd,aExec,aop,aLoad,row_mk,Blk.row,PartOK,Go.Vm.part,V.cells,V.noSl,V.noRef,Nat.reduceAdd,Nat.reduceLeDiff,Nat.reduceMul,contentL,Value.oneCell',List.all_cons,List.all_nil,‹Tys _›.h,‹Fc _›.h];repeat (refine andA ?_)
  refine k _ ?_;clear k K;exact b.h):A:=e b
theorem ztBinOp {A B:Prop} (b:Ho B) (e:Ho B→A:=by
  intro b;refine v_opT _ _ rfl (by first | rfl | (simp only [zV,guardV,Nat.reduceEqDiff,reduceIte];done)) (ql5 rfl) ?_;intro K k;simp only [zE,aStepM,optable,set_some,Nat.reduceEqDiff,reduceIte,Nat.reduceLT,implies_true,forall_const,reduceCtorEq,V.ofValue,V.ofScalar,V.un,V.gd,aExec,aop,aBin,isNil,or_true,true_or,or_false,false_or,EK.fitsL,EK.fits,cellsEq,cellEq,contentL,Value.oneCell',List.all_cons,List.all_nil,Bool.and_self,‹Tys _›.h,‹Fc _›.h];repeat (refine andA ?_)
  refine k _ ?_;clear k K;exact b.h):A:=e b
theorem ztBinOpW {A B:Prop} (b:Ho B) (e:Ho B→A:=by
  intro b;refine v_opT _ _ rfl (by first | rfl | (simp only [zV,guardV,Nat.reduceEqDiff,reduceIte];done)) (ql5 rfl) ?_;intro K k;simp only [zE,aStepM,optable,set_some,Nat.reduceEqDiff,reduceIte,Nat.reduceLT,implies_true,forall_const,reduceCtorEq,V.ofValue,V.ofScalar,V.un,V.gd,aExec,aop,aBin,isNil,or_true,true_or,or_false,false_or,EK.fitsL,EK.fits,cellsEq,cellEq,contentL,Value.oneCell',List.all_cons,List.all_nil,Bool.and_self,‹Tys _›.h,‹Fc _›.h];try simp (disch:=omega) only [wrap64]
  repeat (refine andA ?_)
  refine k _ ?_;clear k K;exact b.h):A:=e b
theorem ztIndexAddr {A B:Prop} (b:Ho B) (e:Ho B→A:=by
  intro b;refine v_opT _ _ rfl (by first | rfl | (simp only [zV,guardV,Nat.reduceEqDiff,reduceIte];done)) (ql5 rfl) ?_;intro K k;simp only [zE,zL,zN,aStepM,optable,set_some,Nat.reduceEqDiff,reduceIte,Nat.reduceLT,implies_true,forall_const,reduceCtorEq,V.ofValue,V.ofScalar,V.un,V.gd,aExec,aop,List.mem_cons,List.not_mem_nil,or_false,forall_eq_or_imp,forall_eq,aIndexAddr,row_mk,Blk.row,Go.Vm.V.cells,List.forall_mem_map,List.length_map,Int.toNat_natCast,Int.reduceToNat,TypeDesc.slice.injEq,Nat.reduceAdd,Nat.reduceLeDiff,Nat.reduceMul,contentL,Value.oneCell',List.all_cons,List.all_nil,Bool.and_self,‹Tys _›.h,‹Fc _›.h];repeat (refine andA ?_)
  refine k _ ?_;clear k K;exact b.h):A:=e b
theorem aStep_guardXB {P:Program} {L:Lend} {s:St} {rg:Array Oper} {o:Oper} {j:Nat} {want G:Bool} {f:FuncId} {args args':List V} {bk:Blk} {R:V→List Blk→Prop} {X K:St→Prop} (k:∀s,X s→K s) (hc:ConX P f args' [bk] R) (hsame:∃r,R r [bk])
    (h:∀r O',R r O'→∃bk',O'=[bk']∧(r.clean=true∧r.only (fun _=>false)=true∧bk'.kindIs (fun k=>k.nm)=true∧(bk'.kindIs (fun k=>k != .shal && k.nm)=true∨∀x∈args,x.coldIn [0]=true))∧X (({s with O:=s.O.set 0 bk'}:St).set o.dst (.opt G r)))
    (hg:o.guard=some (j,want):=by rfl) (hv:guardV s rg j want=some G:=by first | rfl | (simp only [zV,guardV,Nat.reduceEqDiff,reduceIte];done)) (hd:dstOK o.dst s.n:=by exact ql5 rfl)
    (he:G=true→∀F:V→St→Prop,aCall P s f [0] args F→aExec P L s o F:=by
      intro hG F hF;simp only [zE,zM,aStepM,optable,set_some,Nat.reduceEqDiff,reduceIte,Nat.reduceLT,implies_true,forall_const,reduceCtorEq,V.ofValue,V.ofScalar,V.un,V.gd,aExec,lentIds,lendOf,‹Tys _›.h,‹Fc _›.h];first | exact hF | exact ⟨by simpa using hG,hF⟩ | (refine ⟨?_,hF⟩;simp_all;done))
    (ht:toArgs s [0] args=some args':=by rfl) (hO:s.O[0]? =some bk:=by rfl) (hbk:bk.kindIs (fun k=>k.nm)=true∧bk≠.dead:=by exact ⟨by simp [Blk.kindIs,fillK_mix,thK_mix],by simp⟩) (hw:s.vw=false∨bk.kindIs (fun k=>k == .flat)=true:=by exact .inl rfl) :
    dstOK o.dst s.n∧∃j want G,o.guard=some (j,want)∧guardV s rg j want=some G∧(G=true→aExec P L s o fun v s'=>K (s'.set o.dst (.opt true v)))∧(G=false→∃v,K (s.set o.dst (.opt false v))):=
  aStep_guardX j want hd hg hv (fun _=>hc) he hsame ht hO hbk hw fun r O' q=>(h r O' q).imp fun _ h=>⟨h.1,h.2.1,k _ h.2.2⟩
theorem zgx {P:Program} {f:FuncId} {args':List V} {bk:Blk} {R:V→List Blk→Prop} {A B:Prop} (con:ConX P f args' [bk] R) (same:∃r,R r [bk]) (b:Ho B) (e:ConX P f args' [bk] R→(∃r,R r [bk])→Ho B→A:=by
  intro con same b;refine v_opG ?_;intro K k;exact aStep_guardXB k con same b.h):A:=e con same b
theorem zEg {A B:Prop} (b:Ho B) (e:Ho B→A:=by
  intro b;refine ⟨_,rfl,⟨rfl,rfl,by simp [Blk.kindIs,fillK_mix,thK_mix],.inr (qlh.1 rfl)⟩,?_⟩;simp only [zW,set_some,Nat.reduceEqDiff,reduceIte,List.set_cons_zero,List.set_cons_succ];exact b.h):A:=e b
end Go.Vm
