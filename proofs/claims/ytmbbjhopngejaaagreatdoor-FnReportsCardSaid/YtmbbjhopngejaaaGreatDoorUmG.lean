/- The value machine, part 7. -/
import Derived.Sort.Grow
import Derived.Lib.LaidTab
import Derived.Lib.Join
import Derived.Below
import Derived.Deep.Draws
import Derived.Test.YtmbbjhopngejaaaGreatDoorUmF
set_option linter.unusedSimpArgs false
set_option linter.unusedVariables false
set_option linter.defProp false
namespace Go.Vm
open Go
section
variable {α:Type} {f:α→V}
end
end Go.Vm
namespace Go.Vm
open Go
theorem f45 {P:Program} {f:FuncId} {a b:ByteArray} {r:V} {rv:Value} (hf:∃fn,P.funcs[f]? =some fn∧(fn.name == "runtime.NumGoroutine")=false∧fn.body.isNone=false) (hr:∀w μ,Rep w μ r rv [])
    (h:∀w,Calls P f #[.string a,.string b] w fun e w'=>e=.returned rv∧w'=w):Con P f [.str a,.str b] [] r []:=by
  refine ⟨hf,fun w vals μ ow vis hi=> ?_⟩;have h0:vals.getD 0 undef=.string a:=by
    obtain ⟨bl,r0,_⟩:=hi.arg 0 _ rfl;generalize vals.getD 0 undef=x at r0⊢;cases r0;rfl
  have h1:vals.getD 1 undef=.string b:=by
    obtain ⟨bl,r0,_⟩:=hi.arg 1 _ rfl;generalize vals.getD 1 undef=x at r0⊢;cases r0;rfl
  have hs:vals.size=2:=hi.sz;have hv:vals=#[.string a,.string b]:=by
    apply Array.ext
    · omega
    · intro i hi1 hi2
      have hi3:i < 2:=by omega
      have e:vals.getD i undef=vals[i]:=by simp_all
      grind
  subst hv;refine (h w).mono ?_;rintro e w' ⟨rfl,rfl⟩;exact ⟨rv,μ,ow,rfl,⟨⟨[],hr _ _,by simp⟩,by simp,by simp,MLe.refl _,qlw _,hi.dom,hi.owl,fun b hb=>.inl hb,⟨qlw _,fun _ _ _=>rfl,rfl,rfl,rfl,fun _ _=>rfl,fun _ hp=>nomatch hp⟩⟩⟩
end Go.Vm
namespace Go.Vm
open Go
end Go.Vm
namespace Go.Vm
open Go
theorem c44 (i:Nat):(b2h i≠.thin)=True:=by grind[b2h]
theorem f31 {m:Nat} {s:St} (id:Nat) (xs:List V) (hO:s.O[id]? =some (.arr xs .flat)):b6j m s {s with O:=s.O.set id (.arr xs .thin)}:=by
  intro cx a w μ ow hmu h;have hlid:id < s.O.length:=by
    grind
  refine ⟨μ,ow,h.mut (O':=s.O.set id (.arr xs .thin)) (fun _=>False) (MLe.refl μ) (fun j hj=>h.dom j (by grind)) (qlw _) (fun _ _ _=>rfl) rfl rfl rfl (fun _ _=>rfl)
    (fun _ _ e=>e) (fun b j e=>.inr ⟨j,e⟩) (fun j bk e=> ?_) h.owl (fun b hb=>.inl hb)⟩
  by_cases hj:j=id
  · subst hj
    rw [qlo hlid] at e;simp only [Option.some.injEq] at e;subst e;right;obtain ⟨l,q1,q2,q3⟩:=h.blk j _ hO;refine ⟨l,q1,q2,?_⟩;rcases q3 with q3 | ⟨q3,q4,bl,q5,q6,q7⟩
    · grind
    · exact .inr ⟨q3,q4,bl,q5,q6,fun q=>absurd rfl q⟩
  grind
theorem c33 {m:Nat} {s:St}:b6j m s {s with vw:=true}:=fun cx a w μ ow hmu h=>
  ⟨μ,ow,⟨h.dfr,h.sz,fun t=>by
    obtain ⟨bl,r1,r2⟩:=h.env t;exact ⟨bl,r1,fun b hb=>(r2 b hb).mono rfl (fun _=>rfl)⟩,fun id bk e=>(h.blk id bk e).keep (MLe.refl μ) (fun _=>rfl) (fun b _ _=>⟨rfl,rfl⟩),h.dom,h.owl,h.own,h.frm,h.mu⟩⟩
def b5i (t:Nat) (v:V) (l:List (Nat×V)):List (Nat×V):=l.map fun p=>if p.1=t then (p.1,v) else p
theorem b6x (t:Nat) (v:V):∀(l:List (Nat×V)) (k:Nat),(look t l≠.any∨k≠t)→look k (b5i t v l)=if k=t then v else look k l
  | [],k,h=>by
    rcases h with h | h
    · exact absurd rfl h
    · simp [b5i,look,h]
  | (j, x)::l,k,h=>by
    show look k ((if j=t then (j,v) else (j,x))::b5i t v l)=_
    by_cases hj:j=t
    · subst hj
      rw [if_pos rfl,b0j,b0j]
      by_cases hk:k=j
      · grind
      · rw [if_neg hk,if_neg hk,if_neg hk,b6x j v l k (.inr hk),if_neg hk]
    · rw [if_neg hj,b0j,b0j]
      by_cases hk:k=j
      · grind
      · rw [if_neg hk,if_neg hk]
        refine b6x t v l k ?_;rcases h with h | h
        · rw [b0j] at h
          grind
        omega
theorem b2f (t k:Nat) (v x:V) (l:List (Nat×V)):b5i t v ((k,x)::l)=(if k=t then (k,v) else (k,x))::b5i t v l:=rfl
theorem b2q (t:Nat) (v:V):b5i t v []=[]:=rfl
theorem f0k {m:Nat} {s:St} (id t:Nat) (xs:List V) (k:Kd) (hO:s.O[id]? =some (.arr xs k)) (ht:s.get t=.ref id):b6j m s {s with env:=b5i t (.sub id 0 xs.length) s.env}:=by
  intro cx a w μ ow hmu h;refine ⟨μ,ow,h.dfr,h.sz,fun k'=> ?_,h.blk,h.dom,h.owl,h.own,h.frm,h.mu⟩;show ∃bl,Rep w μ (look k' (b5i t (.sub id 0 xs.length) s.env)) _ bl∧_;have hne:look t s.env≠.any:=by
    have:look t s.env=.ref id:=ht
    grind
  rw [b6x t _ s.env k' (.inl hne)]
  by_cases hkt:k'=t
  · subst hkt
    rw [if_pos rfl];obtain ⟨bl,r1,_⟩:=h.env k';rw [ht] at r1;obtain ⟨l,q1,q2,q3⟩:=h.blk id _ hO;refine ⟨[],?_,by simp⟩;generalize a.tmps.getD k' undef=x at r1;cases r1 with
    | ref _ l2 _ hl hd=>
      rw [hl] at q1;obtain rfl:=Option.some.inj q1;cases hd with
      | real hr=>
        have:=Rep.sub (w:=w) (μ:=μ) id 0 xs.length l2 hl hr (by omega)
        grind
      | nil q hf h0=>
        have:xs.length=0:=by omega
        rw [this];exact .sub0 id 0 l2 q hl (qle _)
  · rw [if_neg hkt]
    exact h.env k'
theorem b1t {s:St} {k:Nat} {xs ys:List V} {kd:Kd} (hO:s.O[k]? =some (.arr xs kd)) (hk:(kd != .shal && kd.nm)=true) (e:xs=ys):b57 0 s (.ref k) (.ref 0) [.arr ys kd]:=by
  subst e;have hf:(b6a (.ref k)).filter (fun id=>Nat.ble 0 id)=[k]:=by rfl
  unfold b57;simp only [hf];simp only [Bool.and_eq_true] at hk;refine ⟨⟨by simp [V.only,idx],by simp,qle _⟩,by simp [V.ren,c1i,idx],by grind,?_,.inr ⟨by rfl,?_⟩⟩
  · intro bk hb
    rw [qlk] at hb;subst hb;exact hk.2
  · intro bk hb
    rw [qlk] at hb;subst hb;show (kd != .shal && kd.nm)=true
    grind
theorem d5f {s:St} {v r:V} {O':List Blk} (ids:List Nat) (h1:b6a v=ids) (h2:v.only (fun id=>(idx ids id).isSome)=true) (h3:ids.Nodup)
    (h4:v.ren (fun id=>(idx ids id).getD 0)=r) (h5:(ids.map fun id=>s.O.getD id .dead)=O') (h6:∀bk∈O',bk.kindIs (fun k=>k != .shal && k.nm)=true) (h7:v.clean=true):b57 0 s v r O':=by
  subst h4 h5;have hf:(b6a v).filter (fun id=>Nat.ble 0 id)=ids:=by simp_all
  have ho:c1i 0 ids=fun id=>(idx ids id).getD 0:=by
    grind[id,c1i]
  unfold b57;simp only [hf,ho];refine ⟨⟨c0z (fun id h=>by grind) h2,h3,qle _⟩,trivial,by simp,fun bk hb=> ?_,.inr ⟨h7,h6⟩⟩;have:=h6 bk hb;cases bk with
  | dead=>rfl
  | arr xs k=>cases k<;>simp_all [Blk.kindIs,Kd.nm]
  | box x k=>cases k<;>simp_all [Blk.kindIs,Kd.nm]
theorem Con.thin {P:Program} {f:FuncId} {args:List V} {r:V} {xs:List V} (h:Con P f args [] r [.arr xs .flat]):Con P f args [] r [.arr xs .thin]:=by
  refine ⟨h.1,fun w vals μ ow vis hi=>(h.2 w vals μ ow vis hi).mono ?_⟩;rintro e w' ⟨v,μ',ow',he,hout⟩;refine ⟨v,μ',ow',he,hout.rep,fun id bk hb=> ?_,?_,hout.same,hout.len,hout.dom,hout.owl,hout.own,hout.frm⟩
  · cases id with
    | zero=>
      simp only [List.getElem?_cons_zero,Option.some.injEq] at hb;subst hb;obtain ⟨l,q1,q2,q3⟩:=hout.blk 0 (.arr xs .flat) rfl;refine ⟨l,q1,q2,?_⟩;rcases q3 with q3 | ⟨q3,q4,bl,q5,q6,q7⟩
      · grind
      · exact .inr ⟨q3,q4,bl,q5,q6,fun q=>absurd rfl q⟩
    | succ n=>grind
  · intro bk hb
    rw [qlk] at hb;subst hb;rfl
theorem c9z:b6n .thin false false=some .thin:=rfl
theorem b13:Kd.thin.nm=true:=rfl
theorem b14:Kd.shal.nm=true:=rfl
theorem f7b:(BinOp.eql == BinOp.neq)=false:=rfl
theorem f7e:(BinOp.neq == BinOp.neq)=true:=rfl
structure Caps (caps:List V):Prop where
  cc:∀s ls,b1g s ls caps=some caps
  ca:∀s,b1w s [] caps=some caps
  cn:∀p,V.onlyL p caps=true
  cr:∀ρ,V.renL ρ caps=caps
theorem Caps.nil:Caps []:=⟨fun _ _=>rfl,fun _=>rfl,fun _=>by rfl,fun _=>rfl⟩
theorem Caps.pv {caps:List V} (xs:List V) (h:Caps caps):Caps (.pv xs 0 0::caps):=
  ⟨fun s ls=>by simp [b1g,b1q,h.cc],fun s=>by simp [b1w,b3e,b1q,h.ca],fun p=>by simp [V.onlyL,V.only,h.cn],fun ρ=>by simp [V.renL,V.ren,h.cr]⟩
theorem c4p (id n:Nat):rho [id] n 0=id:=rfl
theorem c7n (m n:Nat):Nat.beq m n=decide (m=n):=by
  grind[Nat.beq,decide_eq_true,Nat.eq_of_beq_eq_true,decide_eq_false,Nat.beq_refl]
end Go.Vm
namespace Go.Vm
open Go
def b5l (bk bk':Blk) (xs xs':List V) (k k':Kd):Prop:=
  (bk=.arr xs k∧bk'=.arr xs' k')∨(∃x x',bk=.box x k∧bk'=.box x' k'∧xs=[x]∧xs'=[x'])
theorem b5l.ok {bk bk':Blk} {xs xs':List V} {k k':Kd} (h:b5l bk bk' xs xs' k k') {cx:Cx} {w:World} {μ:Nat→Option Loc} {ow:Ow} {vw:Bool} {id:Nat} (hb:b9v cx w μ ow vw id bk):b48 cx w μ ow vw id xs k:=by
  rcases h with ⟨rfl,_⟩ | ⟨x,x',rfl,_,rfl,_⟩<;>exact hb
theorem b5l.ok' {bk bk':Blk} {xs xs':List V} {k k':Kd} (h:b5l bk bk' xs xs' k k') {cx:Cx} {w:World} {μ:Nat→Option Loc} {ow:Ow} {vw:Bool} {id:Nat} (hb:b48 cx w μ ow vw id xs' k'):b9v cx w μ ow vw id bk':=by
  rcases h with ⟨_,rfl⟩ | ⟨x,x',_,rfl,_,rfl⟩<;>exact hb
theorem f5n {m:Nat} {s:St} (id:Nat) (bk bk':Blk) (xs xs' ys pre post:List V) (k kd:Kd) (hO:s.O[id]? =some bk) (hbk:b5l bk bk' xs xs' k .part) (hk:k=.deep∨k=.part)
    (hc:xs.flatMap V.cells=pre++.sl ys::post) (hc':xs'.flatMap V.cells=pre++.ref s.O.length::post) (hlen:xs'.length=xs.length)
    (hsz:∀n,(∀x∈xs,x.cells.length=n)→∀x∈xs',x.cells.length=n) (hy:ys≠[]) (hkd:kd=.deep∨(kd=.flat∧ys.all V.noSl=true)) (hv:s.vw=false) :
    b6j m s {s with O:=s.O.set id bk'++[.arr ys kd]}:=by
  intro cx a w μ ow hmu h;have hid:id < s.O.length:=(qlc.1 hO).1;obtain ⟨l,hl1,hl2,hl3⟩:=hbk.ok (h.blk id _ hO);have hxne:xs≠[]:=by grind
  rcases hl3 with ⟨_,q2⟩ | ⟨q1,q2,bl,q3,q4,q5⟩
  · grind
  have hown:bl.Nodup∧∀b∈bl,ow b=some (false,id):=by rcases hk with e | e<;>subst e<;>exact q4
  obtain ⟨c1,c2,c3,c,t,vs,c4,c5,c6,c7,c8⟩:=q3;rw [hc] at c6;obtain ⟨x1,x23,b1,b23,ev1,eb1,r1,r23⟩:=RepL.split pre (.sl ys::post) c6;cases r23 with
  | cons _ x bx _ x3 b3 hx r3=>
    cases hx with
    | sl0=>grind
    | sl _ b off cc sz vs' bl2 h0 hcap hs hz hl' k1 hr=>
      have hbo:ow b=some (false,id):=hown.2 b (by grind);obtain ⟨cs,tt,hh⟩:=h.owl b (by rw [hbo];simp);let loc:Loc:=⟨b,off,sz,ys.length,cc,true⟩;have hcells:Cells w M0 loc ys bl2:=by
        refine ⟨hcap.1,hs,hz,cs,tt,vs',hh,?_,hl',k1,fun j y hj=> ?_⟩
        · obtain ⟨cs2,t2,fr2,e2,e3⟩:=hcap.2
          grind
        · have:=hr j y hj
          grind[cell_of_row]
      let N:=s.O.length;let ow':Ow:=fun y=>if y=b then some (true,N) else if y∈bl2 then some (false,N) else ow y
      let μ':Nat→Option Loc:=fun j=>if j=N then some loc else μ j
      have hnd:=hown.1;rw [eb1] at hnd;obtain ⟨hn1,hn23,hn1x⟩:=List.nodup_append.1 hnd;obtain ⟨hnb,hn3,hnbx⟩:=List.nodup_append.1 hn23;obtain ⟨hnb2,hn2⟩:=List.nodup_cons.1 hnb;have hm:MLe μ μ':=by
        intro j lc e;have:j≠N:=fun q=>by rw [q,h.dom N (qlw _)] at e;cases e
        grind
      have howB:∀y,y∈b::bl2→ow y=some (false,id):=fun y hy=>hown.2 y (by grind)
      have hsame:∀y,y ∉ b::bl2→ow' y=ow y:=by
        grind
      have hsame':∀y,ow y≠some (false,id)→ow' y=ow y:=fun y hy=>hsame y fun q=>hy (howB y q)
      have hne:∀y,ow' y≠none→ow y≠none:=by
        grind
      have hvok:∀y,VOK cx ow s.vw y→VOK cx ow' s.vw y:=by
        intro y hb;rw [hv] at hb⊢;have h0:ow y=none:=hb.1.resolve_right (by simp);exact ⟨.inl (by rw [hsame' y (by rw [h0];simp)];exact h0),hb.2⟩
      have hbne:∀y∈b1++b3,y ∉ b::bl2:=by
        grind
      refine ⟨μ',ow',h.dfr,h.sz,fun t=> ?_,fun j bk2 e=> ?_,fun j hj=> ?_,fun y hy=>h.owl y (hne y hy),fun y hy=>h.own y (hne y hy),h.frm,h.mu.trans hm⟩
      · obtain ⟨bt,g1,g2⟩:=h.env t
        exact ⟨bt,g1.keep hm fun _ _=>rfl,fun y hy=>hvok y (g2 y hy)⟩
      · rcases qmf j N with hj | hj
        · rw [qlz (by grind)] at e
          by_cases hji:j=id
          · subst hji
            rw [qlo hid] at e;simp only [Option.some.injEq] at e;subst e;refine hbk.ok' ⟨l,hm _ _ hl1,by omega,.inr ⟨q1,?_,b1++b3,⟨by omega,c2,hsz _ c3,c,t,vs,c4,c5,?_,c7,c8⟩,⟨?_,?_⟩,fun _=> ?_⟩⟩
            · grind
            · rw [hc',ev1]
              have hkm:MLe (k.mu μ) μ':=(k.mu_le μ).trans hm;have hN:μ' N=some loc:=by simp [μ']
              have rr:Rep w μ' (.ref N) (.slice (some ⟨b,off,none⟩) ys.length cc) []:=.ref N loc _ hN (Hd.real (l:=loc) rfl);exact (r1.keep hkm fun _ _=>rfl).append (RepL.cons _ _ _ _ _ _ rr (r3.keep hkm fun _ _=>rfl))
            · grind
            · grind
            grind
          · rw [qlg (fun q=>hji q.symm)] at e
            refine (h.blk j bk2 e).keep hm (fun q=>q) fun y hyl hcc=>⟨rfl,hsame' y ?_⟩
            rcases hcc with q | q | q
            · rw [q];simp
            · rw [q];simp;exact hji
            · rw [hv] at q
              rw [q.1.resolve_right (by simp)];simp
        · rw [qlq (by rw [qlp];exact hj),qlp] at e
          have hjN:j=N:=by
            grind
          subst hjN;rw [Nat.sub_self,List.getElem?_cons_zero,Option.some.injEq] at e;subst e;have hmu0:kd.mu μ'=M0:=by rcases hkd with q | ⟨q,_⟩<;>subst q<;>rfl
          refine ⟨loc,by simp [μ',N],rfl,.inr ⟨rfl,by grind,bl2,by grind,?_,fun _=>hy⟩⟩;rcases hkd with q | ⟨q,hns⟩
          · subst q
            refine ⟨hn2,fun y hy2=> ?_⟩
            grind
          · subst q
            exact c1u hl' hns
      · have hj':N+1≤j:=by simpa [N] using hj
        have h1:j≠N:=by omega
        simp only [μ',h1,if_false];exact h.dom j (by show s.O.length≤j;omega)
theorem VOK.move {cx:Cx} {ow:Ow} {vw:Bool} {ids:List Nat} {id b:Nat} (h:VOK cx ow vw b):VOK cx (b56 ow ids id) vw b:=
  ⟨h.1.imp b6w fun ⟨q,_,e⟩=>⟨q,b7j e⟩,h.2⟩
def f4o (s s':St):Prop:=∀(cx:Cx) (a:Act) (w:World) (μ:Nat→Option Loc) (ow:Ow),Rel cx s a w μ ow→∃ow',Rel cx s' a w μ ow'∧∀b,VOK cx ow s.vw b→VOK cx ow' s.vw b
theorem f4o.weak {m:Nat} {s s':St} (h:f4o s s'):b6j m s s':=fun cx a w μ ow _ hr=>let ⟨ow',q,_⟩:=h cx a w μ ow hr;⟨μ,ow',q⟩
theorem d8o {s:St} (id:Nat) (bk bk':Blk) (xs:List V) (k k':Kd) (hO:s.O[id]? =some bk) (hbk:b5l bk bk' xs xs k k')
    (hk:∀(cx:Cx) (w:World) (μ:Nat→Option Loc) (ow:Ow) (bl:List Nat) (vs:List Value),RepL w (k.mu μ) (xs.flatMap V.cells) vs bl→c4j cx ow s.vw id bl k→RepL w (k'.mu μ) (xs.flatMap V.cells) vs bl∧c4j cx ow s.vw id bl k') (ht:k≠.thin∨k'=.thin) :
    f4o s {s with O:=s.O.set id bk'}:=by
  intro cx a w μ ow h;have hid:id < s.O.length:=(qlc.1 hO).1;obtain ⟨l,hl1,hl2,hl3⟩:=hbk.ok (h.blk id _ hO);refine ⟨ow,⟨h.dfr,h.sz,h.env,fun i bk2 e=> ?_,fun i hi=>h.dom i (by grind),h.owl,h.own,h.frm,h.mu⟩,fun _ q=>q⟩
  by_cases hii:i=id
  · subst hii
    rw [qlo hid] at e;simp only [Option.some.injEq] at e;subst e;refine hbk.ok' ⟨l,hl1,hl2,?_⟩;rcases hl3 with q | ⟨q1,q2,bl,⟨c1,c2,c3,c,t,vs,c4,c5,c6,c7,c8⟩,q4,q5⟩
    · grind
    · obtain ⟨g1,g2⟩:=hk cx w μ ow bl vs c6 q4
      exact .inr ⟨q1,q2,bl,⟨c1,c2,c3,c,t,vs,c4,c5,g1,c7,c8⟩,g2,fun hne=>q5 (by grind)⟩
  · rw [qlg (fun q=>hii q.symm)] at e
    exact h.blk i bk2 e
theorem c8a {m:Nat} {s:St} (id:Nat) (bk bk':Blk) (xs:List V) (k k':Kd) (hO:s.O[id]? =some bk) (hbk:b5l bk bk' xs xs k k')
    (hk:∀(cx:Cx) (w:World) (μ:Nat→Option Loc) (ow:Ow) (bl:List Nat) (vs:List Value),RepL w (k.mu μ) (xs.flatMap V.cells) vs bl→c4j cx ow s.vw id bl k→RepL w (k'.mu μ) (xs.flatMap V.cells) vs bl∧c4j cx ow s.vw id bl k') (ht:k≠.thin∨k'=.thin) :
    b6j m s {s with O:=s.O.set id bk'}:=
  (d8o id bk bk' xs k k' hO hbk hk ht).weak
theorem f66 {m:Nat} {s:St} (id:Nat) (bk bk':Blk) (xs:List V) (hO:s.O[id]? =some bk) (hbk:b5l bk bk' xs xs .part .deep) (hn:xs.all V.noRef=true):b6j m s {s with O:=s.O.set id bk'}:=
  c8a id bk bk' xs .part .deep hO hbk (fun cx w μ ow bl vs h1 h2=>⟨b7g h1 hn,h2⟩) (.inl (by simp))
theorem f2y {m:Nat} {s:St} (id:Nat) (xs:List V) (hO:s.O[id]? =some (.arr xs .flat)):b6j m s {s with O:=s.O.set id (.arr xs .deep)}:=
  c8a id _ _ xs .flat .deep hO (.inl ⟨rfl,rfl⟩) (fun cx w μ ow bl vs h1 h2=>⟨h1,by
    have:bl=[]:=h2;subst this;exact ⟨by simp,by simp⟩⟩) (.inl (by simp))
theorem d13 {m:Nat} {s:St} (id n:Nat) (xs:List V) (hO:s.O[id]? =some (.arr xs (b2h n))):b6j m s {s with O:=s.O.set id (.arr xs .deep)}:=by
  grind[f4n,f2y,St.O_same,b36]
def Wk (c c':V):Prop:=c'=c∨(c=.nsl∧c'=.sl [])∨c'=.any
def WkL:List V→List V→Prop
  | [],[]=>True
  | c::cs,c'::cs'=>Wk c c'∧WkL cs cs'
  | _,_=>False
theorem WkL.refl:∀l:List V,WkL l l
  | []=>trivial
  | _::l=>⟨.inl rfl,WkL.refl l⟩
theorem WkL.append:∀{a a' b b':List V},WkL a a'→WkL b b'→WkL (a++b) (a'++b')
  | [],[],_,_,_,h=>h
  | _::_,_::_,_,_,h,k=>⟨h.1,WkL.append h.2 k⟩
  | [],_::_,_,_,h,_=>nomatch h
  | _::_,[],_,_,h,_=>nomatch h
theorem RepL.wk {w:World} {ν:Nat→Option Loc}:∀{cs cs':List V} {vs:List Value} {bl:List Nat},WkL cs cs'→RepL w ν cs vs bl→∃bl',RepL w ν cs' vs bl'∧List.Sublist bl' bl
  | [],[],_,_,_,h=>⟨_,h,List.Sublist.refl _⟩
  | [],_::_,_,_,h,_=>nomatch h
  | _::_,[],_,_,h,_=>nomatch h
  | c ::cs,c'::cs',_,_,⟨h1,h2⟩,.cons _ x bx _ xs bl' hx ht=>by
    obtain ⟨b2,g1,g2⟩:=RepL.wk h2 ht;rcases h1 with e | ⟨e1,e2⟩ | e
    · subst e;exact ⟨bx++b2,.cons _ _ _ _ _ _ hx g1,(List.Sublist.refl _).append g2⟩
    · subst e1;subst e2
      cases hx with
      | nsl ad=>exact ⟨[]++b2,.cons _ _ _ _ _ _ (.sl0 ad 0) g1,by grind⟩
    · subst e
      exact ⟨[]++b2,.cons _ _ _ _ _ _ (.any x) g1,(List.nil_sublist bx).append g2⟩
theorem d6k {s:St} (id:Nat) (bk bk':Blk) (xs xs':List V) (k:Kd) (hO:s.O[id]? =some bk) (hbk:b5l bk bk' xs xs' k k) (hw:WkL (xs.flatMap V.cells) (xs'.flatMap V.cells)) (hlen:xs'.length=xs.length)
    (hsz:∀n,(∀x∈xs,x.cells.length=n)→∀x∈xs',x.cells.length=n):f4o s {s with O:=s.O.set id bk'}:=by
  intro cx a w μ ow h;have hid:id < s.O.length:=(qlc.1 hO).1;obtain ⟨l,hl1,hl2,hl3⟩:=hbk.ok (h.blk id _ hO);refine ⟨ow,⟨h.dfr,h.sz,h.env,fun i bk2 e=> ?_,fun i hi=>h.dom i (by grind),h.owl,h.own,h.frm,h.mu⟩,fun _ q=>q⟩
  by_cases hii:i=id
  · subst hii
    rw [qlo hid] at e;simp only [Option.some.injEq] at e;subst e;refine hbk.ok' ⟨l,hl1,by omega,?_⟩;rcases hl3 with ⟨q1,q2⟩ | ⟨q1,q2,bl,⟨c1,c2,c3,c,t,vs,c4,c5,c6,c7,c8⟩,q4,q5⟩
    · grind
    · obtain ⟨bl',g1,g2⟩:=RepL.wk hw c6
      exact .inr ⟨q1,q2,bl',⟨c1,c2,hsz _ c3,c,t,vs,c4,c5,g1,c7,c8⟩,q4.sub g2,fun hne e=>q5 hne (by grind)⟩
  · rw [qlg (fun q=>hii q.symm)] at e
    exact h.blk i bk2 e
theorem d8n {m:Nat} {s:St} (id:Nat) (bk bk':Blk) (xs xs':List V) (k:Kd) (hO:s.O[id]? =some bk) (hbk:b5l bk bk' xs xs' k k) (hw:WkL (xs.flatMap V.cells) (xs'.flatMap V.cells)) (hlen:xs'.length=xs.length)
    (hsz:∀n,(∀x∈xs,x.cells.length=n)→∀x∈xs',x.cells.length=n):b6j m s {s with O:=s.O.set id bk'}:=
  (d6k id bk bk' xs xs' k hO hbk hw hlen hsz).weak
theorem c8r {m:Nat} {s:St} (id n t:Nat) (xs:List V) (k:Kd) (hm:m≤s.O.length) (hO:s.O[id]? =some (.arr xs k)) (hk:k=.flat∨k=.thin) (ht:s.get t=.sub id 0 n) :
    b6j m s {s with env:=b5i t (.ref s.O.length) s.env,O:=s.O.set id .dead++[.arr (xs.take n) .thin]}:=by
  intro cx a w μ ow hmu h;have hid:id < s.O.length:=(qlc.1 hO).1;obtain ⟨l,hl1,hl2,hl3⟩:=h.blk id _ hO;obtain ⟨bt,hrep,hbt⟩:=h.env t;rw [ht] at hrep;let N:=s.O.length;have hk0:k.mu μ=M0:=by rcases hk with e | e<;>subst e<;>rfl
  have key:∃loc:Loc,Hd loc (a.tmps.getD t undef)∧loc.n=(xs.take n).length∧((loc.real=false∧xs.take n=[])∨(loc.real=true∧loc.b=l.b∧ow l.b=some (true,id)∧Cells w M0 loc (xs.take n) [])):=by
    generalize a.tmps.getD t undef=x at hrep;cases hrep with
    | sub0 _ _ l' ad hl hn=>
      exact ⟨b7f,.nil ad rfl rfl,by rfl,.inl ⟨rfl,by simp⟩⟩
    | sub _ _ _ l' hl hr hn=>
      rw [hl1] at hl;cases hl;rcases hl3 with ⟨q1,_⟩ | ⟨q1,q2,bl,q3,q4,q5⟩
      · grind
      · have hb0:bl=[]:=by rcases hk with e | e<;>subst e<;>exact q4
        subst hb0;rw [hk0] at q3;obtain ⟨c1,c2,c3,c,tt,vs,c4,c5,c6,c7,c8⟩:=q3;refine ⟨⟨l.b,l.off,l.sz,n,l.cap,true⟩,?_,?_,.inr ⟨rfl,rfl,q2,⟨?_,c2,fun y hy=>c3 y (ql0 hy),c,tt,vs.take (n * l.sz),c4,c5,?_,fun y hy=>c7 y (ql0 hy),fun j y hj=> ?_⟩⟩⟩
        · have:=Hd.real (l:=⟨l.b,l.off,l.sz,n,l.cap,true⟩) rfl
          grind
        · grind
        · grind
        · have hfl:(xs.take n).flatMap V.cells=(xs.flatMap V.cells).take (n * l.sz):=b3x xs l.sz c3 n
          rw [hfl];have e:=List.take_append_drop (n * l.sz) (xs.flatMap V.cells);rw [←e] at c6;obtain ⟨x1,x2,b1,b2,e1,e2,r1,r2⟩:=RepL.split _ _ c6;have hb1:b1=[]:=by
            grind[List.append_eq_nil_iff]
          subst hb1;have hx1:x1.length=((xs.flatMap V.cells).take (n * l.sz)).length:=r1.length.symm;have hvl:=c6.length;have:vs.take (n * l.sz)=x1:=by
            rw [qlr] at hx1;have hle:x1.length≤n * l.sz:=by omega
            rcases qmf x1.length (n * l.sz) with q | q
            · grind[List.length_drop,List.length_eq_zero_iff,List.take_of_length_le]
            grind
          grind
        grind
  obtain ⟨loc,z1,z2,z3⟩:=key;let ow':Ow:=fun y=>if loc.real=true∧y=loc.b then some (true,N) else ow y
  let μ':Nat→Option Loc:=fun j=>if j=N then some loc else μ j
  have hmm:MLe μ μ':=by
    intro j lc e;have:j≠N:=fun q=>by rw [q,h.dom N (qlw _)] at e;cases e
    grind
  have hsame:∀y,ow y≠some (true,id)→ow' y=ow y:=by
    grind
  have hne:∀y,ow' y≠none→ow y≠none:=by
    grind
  have hvok:∀y,VOK cx ow s.vw y→VOK cx ow' s.vw y:=fun y hy=>hy.mono (hsame y fun q=>hy.not_root q) (fun q=>q)
  have htt:look t s.env≠.any:=by
    intro e;have h2:look t s.env=.sub id 0 n:=ht
    grind
  have hslot:∀j,look j (b5i t (.ref N) s.env)=if j=t then .ref N else look j s.env:=fun j=>b6x t _ s.env j (.inl htt)
  refine ⟨μ',ow',h.dfr,h.sz,fun j=> ?_,fun j bk2 e=> ?_,fun j hj=> ?_,fun y hy=>h.owl y (hne y hy),fun y hy=>h.own y (hne y hy),h.frm,h.mu.trans hmm⟩
  · show ∃bl,Rep w μ' (look j (b5i t (.ref N) s.env)) _ bl∧_
    rw [hslot]
    by_cases hjt:j=t
    · subst hjt
      rw [if_pos rfl];exact ⟨[],.ref N loc _ (by grind) z1,by simp⟩
    · rw [if_neg hjt]
      obtain ⟨b,g1,g2⟩:=h.env j;exact ⟨b,g1.keep hmm fun _ _=>rfl,fun y hy=>hvok y (g2 y hy)⟩
  · rcases qmf j N with hj | hj
    · rw [qlz (by grind)] at e
      by_cases hji:j=id
      · subst hji
        rw [qlo hid] at e;simp only [Option.some.injEq] at e;subst e;trivial
      · rw [qlg (fun q=>hji q.symm)] at e
        refine (h.blk j bk2 e).keep hmm (fun q=>q) fun y hyl hcc=>⟨rfl,hsame y ?_⟩
        rcases hcc with q | q | q
        · grind
        · grind
        · exact fun q2=>q.not_root q2
    · rw [qlq (by grind),qlp] at e
      have hjN:j=N:=by
        grind
      subst hjN;rw [Nat.sub_self,List.getElem?_cons_zero,Option.some.injEq] at e;subst e;refine ⟨loc,by grind,z2,?_⟩;rcases z3 with q | ⟨q1,q2,q3,q4⟩
      · grind
      · exact .inr ⟨q1,by grind,[],q4,rfl,fun q=>absurd rfl q⟩
  · have hj':N+1≤j:=by grind
    have h1:j≠N:=by omega
    simp only [μ',h1,if_false];exact h.dom j (by omega)
theorem f8b {P:Program} {f:FuncId} {fn:Func} {c:Code} {args:List V} {O:List Blk} {r:V} {O':List Blk} (rs:List ResultVar) (L:b4u) (hf:P.funcs[f]? =some fn) (hname:(fn.name == "runtime.NumGoroutine")=false)
    (hb:fn.body=some c) (hts:fn.results=rs.toArray) (hn:args.length≤fn.ntmps) (s1:St) (hweak:b6j O.length ⟨b59 0 args,O,false,fn.ntmps,0⟩ s1)
    (h:∀Q:AEx→St→Prop,(∀s s2,b6j O.length s s2→(c9b P s2 rs fun vs vw=>b57 O.length {s2 with vw:=vw} (b6r vs) r O')→Q .normal s)→(∀s s2,b6j O.length s s2→(c9b P s2 rs fun vs vw=>b57 O.length {s2 with vw:=vw} (b6r vs) r O')→Q .ret s)→
      awp P L O.length c Q s1):Con P f args O r O':=
  b74.con (c2k (R:=isR r O') rs L 0 hf hname hb hts hn hweak (h (fun e s=>match e with | .exit _=>False | _=>∃s2,b6j O.length s s2∧c9b P s2 rs fun vs vw=>∃r' O'',isR r O' r' O''∧b57 O.length {s2 with vw:=vw} (b6r vs) r' O'')
    (fun s s2 hw q=>⟨s2,hw,b9j (fun _ _ z=>⟨r,O',⟨rfl,rfl⟩,z⟩) q⟩) (fun s s2 hw q=>⟨s2,hw,b9j (fun _ _ z=>⟨r,O',⟨rfl,rfl⟩,z⟩) q⟩)))
theorem f0y {P:Program} {L:b4u} {s:St} {rg:Array Oper} {K:St→Prop} {o:Oper} {rest:List Oper} (j:Nat) (want:Bool) (hg:o.guard=some (j,want)) (hv:b04 s rg j want=some true) (hd:c3j o.dst s.n)
    (h:∀K':St→Prop,(∀s,d2o P L rg K rest s→K' s)→b07 P L s o fun v s'=>K' (s'.set o.dst (.opt true v))):d2o P L rg K (o::rest) s:=
  .inr ⟨hd,j,want,true,hg,hv,fun _=>h _ (fun _ q=>q),fun e=>nomatch e⟩
theorem d0y {xs:List V} {i:Nat} {x:V} (h:xs[i]? =some x):xs.flatMap V.cells=(xs.take i).flatMap V.cells++(x.cells++(xs.drop (i+1)).flatMap V.cells):=by
  grind[List.getElem?_eq_some_iff,List.take_append_drop,List.drop_eq_getElem_cons]
theorem d12 {xs:List V} {i:Nat} {x y:V} (h:xs[i]? =some x):(xs.set i y).flatMap V.cells=(xs.take i).flatMap V.cells++(y.cells++(xs.drop (i+1)).flatMap V.cells):=by
  have hl:=(qlc.1 h).1;have h2:(xs.set i y)[i]? =some y:=qlo hl;rw [d0y h2,List.take_set,List.set_eq_of_length_le (by grind),List.drop_set,if_pos (by omega)]
theorem f2e {xs:List V} {i:Nat} {x y:V} (h:xs[i]? =some x) (hc:y.cells.length=x.cells.length):∀n,(∀z∈xs,z.cells.length=n)→∀z∈xs.set i y,z.cells.length=n:=by
  grind
theorem f25 {m:Nat} {s:St} (id i:Nat) (xs pre ys:List V) (k kd:Kd) (hO:s.O[id]? =some (.arr xs k)) (hk:k=.deep∨k=.part) (hi:xs[i]? =some (.agg (pre++[.sl ys]))) (hy:ys≠[]) (hkd:kd=.deep∨(kd=.flat∧ys.all V.noSl=true)) (hv:s.vw=false) :
    b6j m s {s with O:=s.O.set id (.arr (xs.set i (.agg (pre++[.ref s.O.length]))) .part)++[.arr ys kd]}:=
  f5n id _ _ xs (xs.set i (.agg (pre++[.ref s.O.length]))) ys ((xs.take i).flatMap V.cells++pre) ((xs.drop (i+1)).flatMap V.cells) k kd hO (.inl ⟨rfl,rfl⟩) hk
    (by rw [d0y hi];simp [V.cells]) (by grind[d12,V.cells]) qlp (f2e hi (by simp [V.cells])) hy hkd hv
theorem d8x (t:Nat) (u v:V) (l:List (Nat×V)):b5i t v (b5i t u l)=b5i t v l:=by
  grind[b5i,List.map_map,List.map_congr_left]
theorem d2v {m:Nat} {s:St} (id t:Nat) (xs:List V) (k:Kd) (hm:m≤s.O.length) (hO:s.O[id]? =some (.arr xs k)) (hk:k=.flat∨k=.thin) (ht:s.get t=.ref id) :
    b6j m s {s with env:=b5i t (.ref s.O.length) s.env,O:=s.O.set id .dead++[.arr xs .thin]}:=by
  have h1:=f0k (m:=m) id t xs k hO ht;have htt:look t s.env≠.any:=by
    intro e;have h2:look t s.env=.ref id:=ht
    grind
  have h2:(St.mk (b5i t (.sub id 0 xs.length) s.env) s.O s.vw s.n s.mask).get t=.sub id 0 xs.length:=by
    show look t (b5i t _ s.env)=_;rw [b6x t _ s.env t (.inl htt),if_pos rfl]
  have h3:=c8r (m:=m) (s:=St.mk (b5i t (.sub id 0 xs.length) s.env) s.O s.vw s.n s.mask) id xs.length t xs k hm hO hk h2
  grind[List.take_length,b00,d8x]
theorem d5k {m:Nat} {s:St} (id:Nat) (xs:List V) (n:Nat) (hO:s.O[id]? =some (.arr xs .deep)) (hn:xs.length=n):b6j m s {s with O:=s.O.set id (.arr xs (b2h n))}:=by
  intro cx a w μ ow hmu h;have hid:id < s.O.length:=(qlc.1 hO).1;obtain ⟨l,hl1,hl2,hl3⟩:=h.blk id _ hO;refine ⟨μ,ow,h.dfr,h.sz,h.env,fun i bk2 e=> ?_,fun i hi=>h.dom i (by grind),h.owl,h.own,h.frm,h.mu⟩
  by_cases hii:i=id
  · subst hii
    rw [qlo hid] at e;simp only [Option.some.injEq] at e;subst e;refine ⟨l,hl1,hl2,?_⟩;rcases hl3 with q | ⟨q1,q2,bl,q3,q4,q5⟩
    · grind
    · have hne:=q5 (by simp)
      have hd:b2h n=.deep:=by
        unfold b2h;rw [if_neg]
        grind
      grind
  · rw [qlg (fun q=>hii q.symm)] at e
    exact h.blk i bk2 e
end Go.Vm
namespace Go.Vm
open Go
theorem d3u {m:Nat} {s:St} (id n t:Nat) (xs:List V) (hm:m≤s.O.length) (hO:s.O[id]? =some (.arr xs .deep)) (hn0:0 < n) (ht:s.get t=.sub id 0 n) (hv:s.vw=false) :
    b6j m s {s with env:=b5i t (.ref s.O.length) s.env,O:=s.O.set id .dead++[.arr (xs.take n) .deep]}:=by
  intro cx a w μ ow hmu h;have hid:id < s.O.length:=(qlc.1 hO).1;obtain ⟨l,hl1,hl2,hl3⟩:=h.blk id _ hO;obtain ⟨bt,hrep,hbt⟩:=h.env t;rw [ht] at hrep;let N:=s.O.length;have key:∃(loc:Loc) (bl:List Nat),Hd loc (a.tmps.getD t undef)∧loc.n=(xs.take n).length∧loc.real=true∧loc.b=l.b∧ow l.b=some (true,id)∧Cells w M0 loc (xs.take n) bl∧bl.Nodup∧(∀b∈bl,ow b=some (false,id))∧xs.take n≠[]:=by
    generalize a.tmps.getD t undef=x at hrep;cases hrep with
    | sub0 _ _ l' ad hl hn=>omega
    | sub _ _ _ l' hl hr hn=>
      rw [hl1] at hl;cases hl;rcases hl3 with ⟨q1,_⟩ | ⟨q1,q2,bl,q3,q4,q5⟩
      · grind
      · obtain ⟨q41,q42⟩:=q4
        obtain ⟨c1,c2,c3,c,tt,vs,c4,c5,c6,c7,c8⟩:=q3;have hfl:(xs.take n).flatMap V.cells=(xs.flatMap V.cells).take (n * l.sz):=b3x xs l.sz c3 n;have e:=List.take_append_drop (n * l.sz) (xs.flatMap V.cells);rw [←e] at c6;obtain ⟨x1,x2,b1,b2,e1,e2,r1,r2⟩:=RepL.split _ _ c6;have hx1:x1.length=((xs.flatMap V.cells).take (n * l.sz)).length:=r1.length.symm;have hvl:=c6.length;have htk:vs.take (n * l.sz)=x1:=by
          rw [qlr] at hx1;have hle:x1.length≤n * l.sz:=by omega
          rcases qmf x1.length (n * l.sz) with q | q
          · grind[List.length_drop,List.length_eq_zero_iff,List.take_of_length_le]
          grind
        have hbb:∀b∈b1,b∈bl:=fun b hb=>by grind
        refine ⟨⟨l.b,l.off,l.sz,n,l.cap,true⟩,b1,?_,?_,rfl,rfl,q2,⟨?_,c2,fun y hy=>c3 y (ql0 hy),c,tt,vs.take (n * l.sz),c4,c5,?_,fun y hy=>c7 y (ql0 hy),fun j y hj=> ?_⟩,?_,fun b hb=>q42 b (hbb b hb),?_⟩
        · have:=Hd.real (l:=⟨l.b,l.off,l.sz,n,l.cap,true⟩) rfl
          grind
        · grind
        · grind
        · rw [hfl,htk];exact r1
        · grind
        · grind
        grind
  obtain ⟨loc,bl1,z1,z2,z3,z4,z5,z6,z7,z8,z9⟩:=key;let ow':Ow:=fun y=>if y=loc.b then some (true,N) else if ow y=some (false,id) then some (false,N) else ow y
  let μ':Nat→Option Loc:=fun j=>if j=N then some loc else μ j
  have hmm:MLe μ μ':=by
    intro j lc e;have:j≠N:=fun q=>by rw [q,h.dom N (qlw _)] at e;cases e
    grind
  have hsame:∀y,ow y≠some (true,id)→ow y≠some (false,id)→ow' y=ow y:=by
    grind
  have hne:∀y,ow' y≠none→ow y≠none:=by
    grind
  have hnone:∀y,VOK cx ow s.vw y→ow y=none:=by
    intro y hy;rcases hy.1 with e | ⟨e,_⟩
    · exact e
    grind
  have hvok:∀y,VOK cx ow s.vw y→VOK cx ow' s.vw y:=fun y hy=>by
    have e:=hnone y hy;exact hy.mono (hsame y (by grind) (by grind)) (fun q=>q)
  have htt:look t s.env≠.any:=by
    intro e;have h2:look t s.env=.sub id 0 n:=ht
    grind
  have hslot:∀j,look j (b5i t (.ref N) s.env)=if j=t then .ref N else look j s.env:=fun j=>b6x t _ s.env j (.inl htt)
  refine ⟨μ',ow',h.dfr,h.sz,fun j=> ?_,fun j bk2 e=> ?_,fun j hj=> ?_,fun y hy=>h.owl y (hne y hy),fun y hy=>h.own y (hne y hy),h.frm,h.mu.trans hmm⟩
  · show ∃bl,Rep w μ' (look j (b5i t (.ref N) s.env)) _ bl∧_
    rw [hslot]
    by_cases hjt:j=t
    · subst hjt
      rw [if_pos rfl];exact ⟨[],.ref N loc _ (by grind) z1,by simp⟩
    · rw [if_neg hjt]
      obtain ⟨b,g1,g2⟩:=h.env j;exact ⟨b,g1.keep hmm fun _ _=>rfl,fun y hy=>hvok y (g2 y hy)⟩
  · rcases qmf j N with hj | hj
    · rw [qlz (by grind)] at e
      by_cases hji:j=id
      · subst hji
        rw [qlo hid] at e;simp only [Option.some.injEq] at e;subst e;trivial
      · rw [qlg (fun q=>hji q.symm)] at e
        refine (h.blk j bk2 e).keep hmm (fun q=>q) fun y hyl hcc=>⟨rfl,?_⟩
        grind
    · rw [qlq (by grind),qlp] at e
      have hjN:j=N:=by
        grind
      subst hjN;rw [Nat.sub_self,List.getElem?_cons_zero,Option.some.injEq] at e;subst e;refine ⟨loc,by grind,z2,.inr ⟨z3,by grind,bl1,z6,⟨z7,fun b hb=> ?_⟩,fun _=>z9⟩⟩
      grind
  · have hj':N+1≤j:=by grind
    have h1:j≠N:=by omega
    simp only [μ',h1,if_false];exact h.dom j (by omega)
theorem f7j {m:Nat} {s:St} (id:Nat) (xs:List V) (hO:s.O[id]? =some (.arr xs .deep)) (hn:xs.all V.noSl=true):b6j m s {s with O:=s.O.set id (.arr xs .flat)}:=
  c8a id _ _ xs .deep .flat hO (.inl ⟨rfl,rfl⟩) (fun cx w μ ow bl vs h1 h2=>⟨h1,c1u h1 hn⟩) (.inl (by simp))
end Go.Vm
namespace Go.Vm
open Go
end Go.Vm
namespace Go.Vm
open Go
section
variable {α:Type} {f:α→V}
end
theorem d62 {P:Program} {s:St} {f:FuncId} {args args':List V} {r:V} {b1 b2 b3 b1' b2' b3':Blk} {O':List Blk} {K:V→St→Prop} (i j k:Nat) (hc:Con P f args' [b1,b2,b3] r (b1'::b2'::b3'::O')) (ht:b1w s [i,j,k] args=some args')
    (h1:s.O[i]? =some b1) (h2:s.O[j]? =some b2) (h3:s.O[k]? =some b3) (hn:[i,j,k].Nodup) (hbk:∀b∈[b1,b2,b3],b.kindIs (fun k=>k.nm)=true∧b≠.dead) (hv:s.vw=false∨∀b∈[b1,b2,b3],b.kindIs (fun k=>k == .flat)=true)
    (hcl:r.clean=true∧∀b∈b1'::b2'::b3'::O',b.kindIs (fun k=>k != .shal && k.nm)=true) (hk:K (r.ren (rho [i,j,k] s.O.length)) {s with O:=((s.O.set i b1').set j b2').set k b3'++O'}):b9o P s f [i,j,k] args K:=
  d2c ht (by simp_all) hn hbk hv hc (.inl hcl) (by simpa [b4h] using hk)
end Go.Vm
namespace Go.Vm
open Go
section
variable {τ α:Type} {pre:τ→List V} {sl:τ→List α} {f:α→V} {n:Nat}
end
end Go.Vm
namespace Go.Vm
open Go
def zE:=(And.intro (@c3q) (And.intro (@b0j) (And.intro (@b0u) (And.intro (@d78) (And.intro (@f6o) (And.intro (@d68) (And.intro (@f3y) (And.intro (@b5b) (And.intro (@f56) (And.intro (@List.append_nil.{0}) (And.intro (@List.nil_append.{0}) (And.intro (@List.cons_append.{0}) (And.intro (@true_and) (And.intro (@and_true) (And.intro (@and_self) (And.intro (@imp_self) (And.intro (@Bool.false_eq_true) (And.intro (@false_implies) (And.intro (@cond_true.{1}) (And.intro (@cond_false.{1}) (And.intro (@decide_eq_true_eq) (And.intro (@eq_self_iff_true.{1}) (And.intro (@exists_eq_left'.{1}) (And.intro (@Option.some.injEq.{0}) (And.intro (@not_false_eq_true) (And.intro (@not_true_eq_false) (@ne_eq.{1})))))))))))))))))))))))))))
def zS:=(And.intro (@d98) (And.intro (@d56) (And.intro (@f0p) (And.intro (@d89) (And.intro (@f3g) (And.intro (@d9f) (And.intro (@d95) (And.intro (@d9y) (And.intro (@f2p) (And.intro (@d8t) (And.intro (@f05) (And.intro (@d9h) (And.intro (@d8r) (And.intro (@d6z) (And.intro (@d5h) (And.intro (@d51) (And.intro (@d4u) (And.intro (@d6w) (And.intro (@d96) (And.intro (@d50) (And.intro (@List.length_nil.{0}) (And.intro (@qme.{0}) (And.intro (@qls.{0}) (And.intro (@Nat.zero_add) (And.intro (@Nat.add_zero) (@List.cons_append.{0}))))))))))))))))))))))))))
def zN:=(And.intro (@Nat.zero_lt_one) (And.intro (@Nat.lt_add_one) (And.intro (@Nat.zero_add) (And.intro (@Nat.add_zero) (And.intro (@qlw) (@Nat.zero_lt_succ))))))
def zL:=(And.intro (@List.getElem?_toArray.{0}) (And.intro (@List.getElem?_cons_succ.{0}) (And.intro (@List.getElem?_cons_zero.{0}) (And.intro (@List.getD_cons_zero.{0}) (And.intro (@List.getD_cons_succ.{0}) (And.intro (@qme.{0}) (And.intro (@List.length_nil.{0}) (And.intro (@List.drop_zero.{0}) (And.intro (@List.drop_succ_cons.{0}) (And.intro (@List.headD_cons.{0}) (And.intro (@List.take_succ_cons.{0}) (And.intro (@qml.{0}) (And.intro (@List.take_nil.{0}) (And.intro (@List.drop_nil.{0}) (And.intro (@List.map_cons.{0,0}) (And.intro (@List.map_nil.{0,0}) (And.intro (@Option.bind_some.{0,0}) (And.intro (@Option.isSome_some.{0}) (@Option.map_some.{0,0})))))))))))))))))))
def zO:=(And.intro (@Bool.or_false) (And.intro (@Bool.false_or) (And.intro (@Bool.or_true) (And.intro (@Bool.true_or) (And.intro (@Bool.not_true) (And.intro (@Bool.not_false) (And.intro (@qmh) (And.intro (@qmm) (And.intro (@Bool.false_and) (And.intro (@Bool.true_and) (And.intro (@decide_true) (And.intro (@decide_false) (And.intro (@Bool.or_self) (@Bool.and_self))))))))))))))
def zJ:=(And.intro (@d1z) (And.intro (@d2e) (And.intro (@d1i) (And.intro (@d7w) (And.intro (@d69) (And.intro (@f8r) (And.intro (@b92) (And.intro (@List.isEmpty_nil.{0}) (And.intro (@List.isEmpty_cons.{0}) (And.intro (@c12) (And.intro (@List.not_mem_nil.{0}) (And.intro (@List.nodup_nil.{0}) (And.intro (@qlk.{0}) (And.intro (@List.nodup_cons.{0}) (And.intro (@beq_self_eq_true.{0}) (And.intro (@Bool.cond_true.{1}) (And.intro (@Bool.cond_false.{1}) (And.intro (@List.all_cons.{0}) (And.intro (@List.all_nil.{0}) (And.intro (@List.set_cons_zero.{0}) (@List.set_cons_succ.{0})))))))))))))))))))))
def zP:=(And.intro (@Bool.cond_true_right) (And.intro (@Bool.cond_true_left) (And.intro (@Bool.cond_false_right) (@Bool.cond_false_left))))
def zG:=(And.intro (@List.getElem?_toArray.{0}) (And.intro (@List.getElem?_cons_succ.{0}) (And.intro (@List.getElem?_cons_zero.{0}) (@Option.bind_some.{0,0}))))
def zV:=(And.intro (@c3q) (And.intro (@b0j) (And.intro (@cond_true.{1}) (And.intro (@cond_false.{1}) (And.intro (@qmh) (And.intro (@Bool.false_and) (And.intro (@Bool.not_true) (And.intro (@Bool.not_false) (And.intro (@List.getElem?_toArray.{0}) (And.intro (@List.getElem?_cons_succ.{0}) (And.intro (@List.getElem?_cons_zero.{0}) (@Option.bind_some.{0,0}))))))))))))
def zC:=(And.intro (@decide_eq_true_eq) (And.intro (@decide_eq_false_iff_not) (And.intro (@qld) (And.intro (@Bool.or_eq_true) (And.intro (@Bool.not_eq_true') (And.intro (@Bool.not_eq_false') (And.intro (@Bool.and_eq_false_imp) (And.intro (@Bool.or_eq_false_iff) (And.intro (@Int.not_lt) (And.intro (@Int.not_le) (And.intro (@Bool.true_eq_false) (And.intro (@Bool.false_eq_true) (And.intro (@imp_false) (@Classical.not_imp))))))))))))))
def zM:=(And.intro (@List.map_cons.{0,0}) (And.intro (@List.map_nil.{0,0}) (And.intro (@List.append_nil.{0}) (And.intro (@List.flatMap_nil.{0,0}) (And.intro (@qlt.{0}) (And.intro (@List.not_mem_nil.{0}) (And.intro (@or_false) (And.intro (@forall_eq_or_imp.{1}) (And.intro (@forall_eq.{1}) (@false_implies))))))))))
def zW:=(And.intro (@c3q) (And.intro (@b0j) (And.intro (@b0u) (And.intro (@d78) (And.intro (@f6o) (And.intro (@d68) (@f3y)))))))
def zY:=(And.intro (@List.append_nil.{0}) (And.intro (@List.cons_append.{0}) (And.intro (@List.nil_append.{0}) (And.intro (@List.length_nil.{0}) (And.intro (@qme.{0}) (And.intro (@Nat.zero_add) (And.intro (@Nat.not_lt_zero) (And.intro (@if_false.{1}) (@Nat.sub_zero)))))))))
theorem f9b:List.range 0=[]:=rfl
theorem f84:List.range 1=[0]:=rfl
theorem f9a:List.range 2=[0,1]:=rfl
theorem f83:List.range 3=[0,1,2]:=rfl
theorem f9e:List.range 4=[0,1,2,3]:=rfl
theorem f81:List.range 5=[0,1,2,3,4]:=rfl
theorem f89:List.range 6=[0,1,2,3,4,5]:=rfl
theorem f87:List.range 7=[0,1,2,3,4,5,6]:=rfl
theorem f85:List.range 8=[0,1,2,3,4,5,6,7]:=rfl
theorem f9d:List.range 9=[0,1,2,3,4,5,6,7,8]:=rfl
theorem f4v:List.range 10=[0,1,2,3,4,5,6,7,8,9]:=rfl
theorem f46:List.range 11=[0,1,2,3,4,5,6,7,8,9,10]:=rfl
theorem f5s:List.range 12=[0,1,2,3,4,5,6,7,8,9,10,11]:=rfl
theorem b11:Kd.flat.nm=true:=rfl
theorem b10:Kd.deep.nm=true:=rfl
end Go.Vm
namespace Go.Vm
open Go
def Kd.isMix:Kd→Bool
  | .mix | .part=>true
  | _=>false
theorem b1b:Kd.flat.isMix=false:=rfl
theorem b2b:Kd.deep.isMix=false:=rfl
theorem b1c:Kd.shal.isMix=false:=rfl
theorem b8b:Kd.thin.isMix=false:=rfl
theorem b1m:Kd.mix.isMix=true:=rfl
theorem b7x:Kd.part.isMix=true:=rfl
theorem b1x (i:Nat):(b2h i).isMix=false:=by unfold b2h;split<;>rfl
theorem b9m (i:Nat):(thK i).isMix=false:=by unfold thK;split<;>rfl
def Blk.renM (ρ:Nat→Nat):Blk→Blk
  | .dead=>.dead
  | .arr xs k=>.arr (bif k.isMix then V.renL ρ xs else xs) k
  | .box x k=>.box (bif k.isMix then V.ren ρ x else x) k
def Blk.onlyM (p:Nat→Bool):Blk→Bool
  | .dead=>true
  | .arr xs k=> !k.isMix || V.onlyL p xs
  | .box x k=> !k.isMix || V.only p x
def St.compM (ids:List Nat) (s:St):St:={s with env:=s.env.map fun p=>(p.1,p.2.ren fun id=>(idx ids id).getD 0),O:=ids.map fun id=>(s.O.getD id .dead).renM fun id=>(idx ids id).getD 0}
theorem c3b (ρ:Nat→Nat):∀l:List V,V.renL ρ l=l.map (V.ren ρ)
  | []=>by rfl
  | v::l=>by rw [V.renL,c3b ρ l];rfl
theorem d4o (ρ:Nat→Nat) (v:V):(v.ren ρ).cells=v.cells.map (V.ren ρ):=by
  cases v<;>simp only [V.ren,V.cells,List.map_cons,List.map_nil]
  rw [c3b]
theorem f2k (ρ:Nat→Nat) (l:List V):(V.renL ρ l).flatMap V.cells=V.renL ρ (l.flatMap V.cells):=by
  induction l with
  | nil=>rfl
  | cons v l ih=>grind[V.renL,d4o,c3b]
theorem f0h {p:Nat→Bool} {v:V} (h:v.only p=true):V.onlyL p v.cells=true:=by
  cases v<;>simp_all [V.only,V.cells,V.onlyL]
theorem c58 {p:Nat→Bool}:∀{a b:List V},V.onlyL p a=true→V.onlyL p b=true→V.onlyL p (a++b)=true
  | [],_,_,h=>h
  | v::a,b,h,h2=>by
    rw [V.onlyL,qld] at h;rw [List.cons_append,V.onlyL,h.1,c58 h.2 h2];rfl
theorem d0i {p:Nat→Bool}:∀{l:List V},V.onlyL p l=true→V.onlyL p (l.flatMap V.cells)=true
  | [],_=>by rfl
  | v::l,h=>by
    rw [V.onlyL,qld] at h;rw [ql3];exact c58 (f0h h.1) (d0i h.2)
theorem d91 {m:Nat} {s:St} (ids:List Nat) (hn:ids.Nodup) (hm:∀j,j < m→ids[j]? =some j) (he:∀p∈s.env,p.2.only (fun id=>(idx ids id).isSome)=true)
    (hb:∀id∈ids,∀bk,s.O[id]? =some bk→bk.onlyM (fun id=>(idx ids id).isSome)=true):b6j m s (s.compM ids):=by
  intro cx a w μ ow hmu h;let ρ:Nat→Nat:=fun id=>(idx ids id).getD 0
  let μ':Nat→Option Loc:=fun j=>(ids[j]?).bind μ
  let ow':Ow:=fun b=>match ow b with
    | some (r,id)=>(idx ids id).map fun j=>(r,j)
    | none=>none
  have o0:∀b,ow b=none→ow' b=none:=fun b e=>by grind
  have o1:∀b id,ow b=some (false,id)→ow' b=none∨∃id',ow' b=some (false,id'):=fun b id e=>by
    cases q:idx ids id with
    | none=>grind
    | some j=>grind
  have oin:∀b r id j,ow b=some (r,id)→idx ids id=some j→ow' b=some (r,j):=fun b r id j e q=>by grind
  have one:∀b,ow' b≠none→ow b≠none:=fun b hb e=>hb (o0 b e)
  have hμ:∀id l,(idx ids id).isSome=true→μ id=some l→μ' (ρ id)=some l:=by
    intro id l hs e;obtain ⟨j,hj⟩:=qmg.1 hs;have:=b85 hj
    grind
  let μ2:Nat→Option Loc:=fun id=>if (idx ids id).isSome then μ id else none
  have h2:∀id l,μ2 id=some l→μ' (ρ id)=some l:=by
    grind
  refine ⟨μ',ow',h.dfr,h.sz,fun t=> ?_,fun j bk e=> ?_,fun j hj=> ?_,fun b hb=>h.owl b (one b hb),fun b hb=>h.own b (one b hb),h.frm,fun id l e=> ?_⟩
  · obtain ⟨bl,r1,r2⟩:=h.env t
    show ∃bl,Rep w μ' (look t (s.env.map _)) _ bl∧_;rw [d09];have r1':Rep w μ2 (look t s.env) (a.tmps.getD t undef) bl:=Rep.only (p:=fun id=>(idx ids id).isSome) (fun id l hp e=>by grind) r1 (c7b he t);exact ⟨bl,Rep.ren (ρ:=ρ) h2 r1',fun b hb=>(r2 b hb).mono2 (o0 b) (o1 b)⟩
  · have e' : (ids[j]?).map (fun id=>(s.O.getD id .dead).renM ρ)=some bk:=by rw [←List.getElem?_map];exact e
    rw [Option.map_eq_some_iff] at e';obtain ⟨id,hid,hbk⟩:=e';have hix:idx ids id=some j:=c4q hn hid;cases hO:s.O[id]? with
    | none=>
      rw [qlm,hO] at hbk;simp only [Option.getD_none] at hbk;subst hbk;trivial
    | some bk' =>
      rw [qlm,hO] at hbk;simp only [Option.getD_some] at hbk;have hblk:=h.blk id bk' hO;have hbm:=hb id (qlb hid) bk' hO;have key:∀xs k,(k.isMix=true→V.onlyL (fun id=>(idx ids id).isSome) xs=true)→b48 cx w μ ow s.vw id xs k→b48 cx w μ' ow' s.vw j (bif k.isMix then V.renL ρ xs else xs) k:=by
        intro xs k hk ⟨l,q1,q2,q3⟩;have q1':μ' j=some l:=by grind
        have hlen:(bif k.isMix then V.renL ρ xs else xs).length=xs.length:=by
          cases k.isMix
          · rfl
          · rw [cond_true,c3b,qmj]
        refine ⟨l,q1',by omega,?_⟩;rcases q3 with ⟨q3,q3'⟩ | ⟨q3,q4,bl2,q5,q6,q7⟩
        · grind
        · refine .inr ⟨q3,oin _ _ _ _ q4 hix,bl2,?_,?_,fun hne e=>q7 hne (qlv.1 (by grind))⟩
          · cases k with
            | flat | thin | deep | shal=>exact q5
            | mix | part=>
              obtain ⟨c1,c2,c3,c,t,vs,c4,c5,c6,c7,c8⟩:=q5;refine ⟨c1,c2,?_,c,t,vs,c4,c5,?_,c7,c8⟩
              · intro x hx
                have hx':x∈V.renL ρ xs:=hx;rw [c3b] at hx';obtain ⟨y,hy,rfl⟩:=qmo.1 hx'
                grind[d4o,List.length_map]
              · show RepL w μ' ((V.renL ρ xs).flatMap V.cells) vs bl2
                rw [f2k];have c6':RepL w μ (xs.flatMap V.cells) vs bl2:=c6;exact RepL.ren (ρ:=ρ) h2 (RepL.only (p:=fun id=>(idx ids id).isSome) (μ':=μ2) (fun id l hp e=>by grind) c6' (d0i (hk rfl)))
          · cases k with
            | flat | thin=>exact q6
            | deep | part=>exact ⟨q6.1,fun b hb=>oin _ _ _ _ (q6.2 b hb) hix⟩
            | shal | mix=>exact fun b hb=>(q6 b hb).mono2 (o0 b) (o1 b)
      subst hbk;cases bk' with
      | dead=>trivial
      | arr xs k=>exact key xs k (fun q=>by grind[Blk.onlyM]) hblk
      | box x k=>
        have:=key [x] k (fun q=>by grind[Blk.onlyM,V.onlyL]) hblk;show b48 cx w μ' ow' s.vw j [bif k.isMix then V.ren ρ x else x] k;cases hq:k.isMix with
        | false=>grind
        | true=>simp_all[cond_true,V.renL]
  · grind[List.getElem?_eq_none,St.compM]
  · have hlt:id < m:=by
      grind
    have:=h.mu id l e
    grind
theorem c11 {m:Nat} {s s':St} (ks ids:List Nat) (hn:ids.Nodup) (hm:∀j,j < m→ids[j]? =some j) (he:∀p∈(s.keep ks).env,p.2.only (fun id=>(idx ids id).isSome)=true)
    (hb:∀id∈ids,∀bk,s.O[id]? =some bk→bk.onlyM (fun id=>(idx ids id).isSome)=true) (e:(s.keep ks).compM ids=s'):b6j m s s':=
  e ▸ b00 (b0f ks s) (d91 ids hn hm he hb)
theorem RepL.len {w:World} {μ:Nat→Option Loc}:∀{xs:List V} {vs:List Value} {bl:List Nat},RepL w μ xs vs bl→vs.length=xs.length
  | _,_,_,.nil=>rfl
  | _,_,_,.cons v x bl vs xs bl' h ht=>by rw [qme,qme,RepL.len ht]
def b44 (m:Nat) (v:V):List Nat:=(b6a v).filter fun id=>Nat.ble m id
theorem d1p {m:Nat} {s:St} {v r:V} {O':List Blk} (h2:v.only (fun id=>Nat.blt id m || (idx (b44 m v) id).isSome)=true) (h3:(b44 m v).Nodup) (hm:m≤s.O.length)
    (h4:v.ren (c1i m (b44 m v))=r) (h5:s.O.take m++(b44 m v).map (fun id=>s.O.getD id .dead)=O') (h6:∀bk∈O',bk.kindIs (fun k=>k != .shal && k.nm)=true) (h7:v.clean=true):b57 m s v r O':=by
  subst h4 h5;unfold b57;refine ⟨⟨h2,h3,hm⟩,rfl,rfl,fun bk hb=> ?_,.inr ⟨h7,h6⟩⟩;have:=h6 bk hb;cases bk with
  | dead=>rfl
  | arr xs k=>cases k<;>simp_all [Blk.kindIs,Kd.nm]
  | box x k=>cases k<;>simp_all [Blk.kindIs,Kd.nm]
theorem b1a {m:Nat} {s:St} {v:V} {R:V→List Blk→Prop} (hR:R (v.ren (c1i m (b44 m v))) (s.O.take m++(b44 m v).map (fun id=>s.O.getD id .dead))) (hw:s.vw=false:=by rfl)
    (h2:v.only (fun id=>Nat.blt id m || (idx (b44 m v) id).isSome)=true:=by rfl) (h3:(b44 m v).Nodup:=by first | decide | simp [b44,b6a,c0q,c16]) (hm:m≤s.O.length:=by simp)
    (h6:∀bk∈s.O.take m++(b44 m v).map (fun id=>s.O.getD id .dead),bk.kindIs (fun k=>k.nm)=true:=by simp [b44,b6a,c0q,c16,Blk.kindIs,b05]):∃r O',R r O'∧b57 m s v r O':=
  ⟨_,_,hR,by
    unfold b57;exact ⟨⟨h2,h3,hm⟩,rfl,rfl,h6,.inl hw⟩⟩
theorem d82 (id n j:Nat):rho [id] n (j+1)=n+j:=by rfl
theorem f8z (i j k n:Nat):rho [i,j,k] n 0=i:=rfl
theorem f75 (i j k n:Nat):rho [i,j,k] n 1=j:=rfl
theorem f8j (i j k n:Nat):rho [i,j,k] n 2=k:=rfl
theorem f8f (i j k n m:Nat):rho [i,j,k] n (m+3)=n+m:=by
  rfl
theorem c56 {P:Program} {s:St} {f:FuncId} {args args':List V} {r:V} {K:V→Prop} {G:Prop} (hc:G→Con P f args' [] r []) (ht:b1w s [] args=some args')
    (hr:r.only (fun _=>false)=true) (hcl:r.clean=true) (hk:K r):∃r,(G→b9o P s f [] args fun v s'=>v=r∧s'={s with O:=s.O++[]})∧K r:=
  ⟨r,fun g=>b7c (hc g) ht (.inl ⟨hcl,by simp⟩) ⟨b7w (by simp) hr,rfl⟩,hk⟩
theorem f6y {P:Program} {L:b4u} {m:Nat} {Q:AEx→St→Prop} {s:St} {x y:Code} {S:St} (h1:∀Q':AEx→St→Prop,(∀s,b6j m s S→Q' .normal s)→(∀i s,Q (.exit i) s→Q' (.exit i) s)→(∀s,Q .ret s→Q' .ret s)→awp P L m x Q' s)
    (h2:awp P L m y Q S):awp P L m (.seq x y) Q s:=
  b0e fun Q' hn he hr=>h1 Q' (fun s hw=>hn s S hw h2) he hr
theorem b3u {P:Program} {L:b4u} {m:Nat} {Q:AEx→St→Prop} {s:St} {x y:Code} {A:Type} (S:A→St) (ok:A→Prop)
    (h1:∀Q':AEx→St→Prop,(∀p s,ok p→b6j m s (S p)→Q' .normal s)→(∀i s,Q (.exit i) s→Q' (.exit i) s)→(∀s,Q .ret s→Q' .ret s)→awp P L m x Q' s)
    (h2:∀p,ok p→awp P L m y Q (S p)):awp P L m (.seq x y) Q s:=
  b0e fun Q' hn he hr=>h1 Q' (fun p s hok hw=>hn s (S p) hw (h2 p hok)) he hr
theorem b1l {P:Program} {L:b4u} {m:Nat} {Q:AEx→St→Prop} {s:St} {id:Nat} {ops:Array Oper} {y:Code} (ks:List Nat)
    (h:∀K:St→Prop,(∀s,awp P L m y Q (s.keep ks)→K s)→d2o P L ops K ops.toList s):awp P L m (.seq (.region id ops false) y) Q s:=
  b0e fun _ hn _ _=>b2m fun K k=>h K fun s q=>k s (hn s (s.keep ks) (b0f ks s) q)
theorem d9u {P:Program} {s:St} {f:FuncId} {args args':List V} {R:V→List Blk→Prop} {K:V→St→Prop} (hc:b74 P f args' [] R) (ht:b1w s [] args=some args')
    (h:∀r O',R r O'→((r.clean=true∧∀bk∈O',bk.kindIs (fun k=>k != .shal && k.nm)=true)∨(∀x∈args,x.coldIn []=true))∧K (r.ren (rho [] s.O.length)) {s with O:=s.O++O'}):b9o P s f [] args K:=
  ⟨s.O,.inl rfl,args',[],R,ht,rfl,List.nodup_nil,by simp,.inr (by simp),hc,fun r O' hR=>⟨(h r O' hR).1,by grind[b4h]⟩⟩
theorem c67 {P:Program} {s:St} {f:FuncId} {args args':List V} {bk:Blk} {R:V→List Blk→Prop} {K:V→St→Prop} (id:Nat) (hc:b74 P f args' [bk] R) (ht:b1w s [id] args=some args')
    (hO:s.O[id]? =some bk) (hbk:bk.kindIs (fun k=>k.nm)=true∧bk≠.dead) (hv:s.vw=false∨bk.kindIs (fun k=>k == .flat)=true)
    (h:∀r O',R r O'→∃bk' O1,O'=bk'::O1∧((r.clean=true∧∀b∈O',b.kindIs (fun k=>k != .shal && k.nm)=true)∨(∀x∈args,x.coldIn [id]=true))∧K (r.ren (rho [id] s.O.length)) {s with O:=s.O.set id bk'++O1}):b9o P s f [id] args K:=
  ⟨s.O,.inl rfl,args',[bk],R,ht,by grind,by simp,by grind,hv.imp (fun h=>h) (fun h=>by grind),hc,fun r O' hR=>by
    grind[b4h]⟩
theorem d3c {P:Program} {s:St} {f:FuncId} {args args':List V} {bk bk2:Blk} {R:V→List Blk→Prop} {K:V→St→Prop} (i j:Nat) (hc:b74 P f args' [bk,bk2] R) (ht:b1w s [i,j] args=some args')
    (hO:s.O[i]? =some bk) (hO2:s.O[j]? =some bk2) (hn:i≠j) (hbk:(bk.kindIs (fun k=>k.nm)=true∧bk≠.dead)∧(bk2.kindIs (fun k=>k.nm)=true∧bk2≠.dead)) (hv:s.vw=false)
    (h:∀r O',R r O'→∃b1 b2 O1,O'=b1::b2::O1∧((r.clean=true∧∀b∈O',b.kindIs (fun k=>k != .shal && k.nm)=true)∨(∀x∈args,x.coldIn [i,j]=true))∧K (r.ren (rho [i,j] s.O.length)) {s with O:=(s.O.set i b1).set j b2++O1}):b9o P s f [i,j] args K:=
  ⟨s.O,.inl rfl,args',[bk,bk2],R,ht,by simp_all,by grind,by
    grind,.inl hv,hc,fun r O' hR=>by
    grind[b4h]⟩
theorem f3d (i j n m:Nat):rho [i,j] n (m+2)=n+m:=by
  rfl
theorem f1i (i j n:Nat):rho [i,j] n 0=i:=rfl
theorem f3t (i j n:Nat):rho [i,j] n 1=j:=rfl
theorem f9q {P:Program} {L:b4u} {s:St} {rg:Array Oper} {K:St→Prop} {o:Oper} {rest:List Oper}
    (h:∀K':St→Prop,(∀s,d2o P L rg K rest s→K' s)→c3j o.dst s.n∧∃j want G,o.guard=some (j,want)∧b04 s rg j want=some G∧(G=true→b07 P L s o fun v s'=>K' (s'.set o.dst (.opt true v)))∧(G=false→∃v,K' (s.set o.dst (.opt false v)))):d2o P L rg K (o::rest) s:=
  .inr (h _ fun _ h=>h)
theorem d2y {P:Program} {L:b4u} {s:St} {rg:Array Oper} {o:Oper} {K:St→Prop} (j:Nat) (want:Bool) {G:Bool} {f:FuncId} {args args':List V} {bk:Blk} {R:V→List Blk→Prop} {id:Nat} (hd:c3j o.dst s.n) (hg:o.guard=some (j,want))
    (hv:b04 s rg j want=some G) (hc:G=true→b74 P f args' [bk] R) (he:G=true→∀F:V→St→Prop,b9o P s f [id] args F→b07 P L s o F) (hsame:∃r,R r [bk])
    (ht:b1w s [id] args=some args') (hO:s.O[id]? =some bk) (hbk:bk.kindIs (fun k=>k.nm)=true∧bk≠.dead) (hw:s.vw=false∨bk.kindIs (fun k=>k == .flat)=true)
    (h:∀r O',R r O'→∃bk',O'=[bk']∧(r.clean=true∧r.only (fun _=>false)=true∧bk'.kindIs (fun k=>k.nm)=true∧(bk'.kindIs (fun k=>k != .shal && k.nm)=true∨∀x∈args,x.coldIn [id]=true))∧K (({s with O:=s.O.set id bk'}:St).set o.dst (.opt G r))) :
    c3j o.dst s.n∧∃j want G,o.guard=some (j,want)∧b04 s rg j want=some G∧(G=true→b07 P L s o fun v s'=>K (s'.set o.dst (.opt true v)))∧(G=false→∃v,K (s.set o.dst (.opt false v))):=by
  refine ⟨hd,j,want,G,hg,hv,fun hG=> ?_,fun hG=> ?_⟩
  · subst hG
    refine he rfl _ (c67 id (hc rfl) ht hO hbk hw fun r O' hR=> ?_);obtain ⟨bk',rfl,⟨h1,h2,h3,h4⟩,h5⟩:=h r O' hR;refine ⟨bk',[],rfl,h4.imp (fun q=>⟨h1,by grind⟩) (fun q=>q),?_⟩;rw [b7w (by simp) h2,List.append_nil];omega
  · subst hG
    obtain ⟨r,hr⟩:=hsame;obtain ⟨bk',e,_,h5⟩:=h r _ hr;simp only [List.cons.injEq,and_true] at e;subst e;refine ⟨r,?_⟩;have:s.O.set id bk=s.O:=by
      apply List.ext_getElem?;intro i
      grind
    simp_all
end Go.Vm
namespace Go.Vm
open Go Go.RowKit
theorem d6s {P:Program} {n:String} {q:Array Value→Prop} {g:Nat} (hg:P.globalNamed n=some g):(g,q)∈c40 P n q:=by grind[c40]
theorem f4k {P:Program} {w:World} (h:b6h w (b6b P)) {g:Nat} (hg:P.globalNamed "internal/strconv.uint64pow10" =some g):∃c t fr,w.heap[g]? =some (.cells c t fr)∧f7t c:=
  h _ (qma _ (d6s hg))
theorem f40 {P:Program} {w:World} (h:b6h w (b6b P)) {g:Nat} (hg:P.globalNamed "strconv.ErrSyntax" =some g):∃c t fr,w.heap[g]? =some (.cells c t fr)∧d5j c:=
  h _ (qmc _ (qma _ (d6s hg)))
theorem f5d {P:Program} {w:World} (h:b6h w (b6b P)) {g:Nat} (hg:P.globalNamed "strconv.ErrRange" =some g):∃c t fr,w.heap[g]? =some (.cells c t fr)∧d5j c:=
  h _ (qmc _ (qmc _ (d6s hg)))
theorem d7x {P:Program} {g:Nat} (hg:P.globalNamed "internal/strconv.uint64pow10" =some g) {w:World} (h:b6h w (b6b P)) :
    Lib.TabIs P w "internal/strconv.uint64pow10" .u64 Lib.pow10Tab:=by
  obtain ⟨c,t,fr,q,e⟩:=f4k h hg;rw [e] at q
  grind[Lib.TabIs,World.var?]
theorem d0a {w:World} {l1 l2:List (Nat×(Array Value→Prop))} (h1:b6h w l1) (h2:b6h w l2):b6h w (l1++l2):=fun p hp=>(qlj.1 hp).elim (h1 p) (h2 p)
theorem d6y {P:Program} {n:String} {q:Array Value→Prop} {w:World} (h:P.globalNamed n=none):b6h w (c40 P n q):=by
  intro p hp
  grind[c40]
theorem d0k {P:Program} {n:String} {w:World} (h:P.globalNamed n=none∨∃te pe,w.var? P n=some #[.iface te pe]):b6h w (c40 P n d5j):=by
  rcases h with h | ⟨te,pe,h⟩
  · exact d6y h
  intro p hp;unfold c40 at hp;unfold World.var? at h;cases hg:P.globalNamed n with
  | none=>grind
  | some g=>
    rw [hg] at hp h;simp only [List.mem_singleton] at hp;subst hp;simp only [Option.bind_some] at h;split at h
    · rename_i cs t fr e
      simp only [Option.some.injEq] at h;exact ⟨cs,t,fr,e,te,pe,h⟩
    grind
theorem d9j {P:Program} {w:World} (h:Lib.TabIs P w "internal/strconv.uint64pow10" .u64 Lib.pow10Tab):b6h w (c40 P "internal/strconv.uint64pow10" f7t):=by
  intro p hp;unfold c40 at hp;unfold Lib.TabIs World.var? at h
  cases hg:P.globalNamed "internal/strconv.uint64pow10" with
  | none=>grind
  | some g=>
    rw [hg] at hp h;simp only [List.mem_singleton] at hp;subst hp;simp only [Option.bind_some] at h;split at h
    · rename_i cs t fr e
      simp only [Option.some.injEq] at h;exact ⟨cs,t,fr,e,h⟩
    grind
theorem f38 {P:Program} {f:FuncId} {n:Int} {r:V} {rv:Value} (hf:∃fn,P.funcs[f]? =some fn∧(fn.name == "runtime.NumGoroutine")=false∧fn.body.isNone=false) (hr:∀w μ,Rep w μ r rv [])
    (h:∀w,b6h w (b6b P)→Calls P f #[.int .i64 n] w fun e w'=>e=.returned rv∧∃k os,w'=Sort.grow (w.drewN k) os):Con P f [.int .i64 n] [] r []:=by
  refine ⟨hf,fun w vals μ ow vis hi=> ?_⟩;have h0:vals.getD 0 undef=.int .i64 n:=by
    obtain ⟨bl,r0,_⟩:=hi.arg 0 _ rfl;generalize vals.getD 0 undef=x at r0⊢;cases r0;rfl
  have hs:vals.size=1:=hi.sz;have hv:vals=#[.int .i64 n]:=by
    apply Array.ext
    · omega
    simp_all
  subst hv;refine (h w fun p hp=>(hi.tab p hp).2).mono ?_;rintro e w' ⟨rfl,k,os,rfl⟩;have hold:∀b,b < w.heap.size→(Sort.grow (w.drewN k) os).heap[b]? =w.heap[b]? :=fun b hb=>Sort.heap_grow_old (w.drewN k) os hb
  refine ⟨rv,μ,ow,rfl,⟨⟨[],hr _ _,by simp⟩,by simp,by simp,MLe.refl _,qlw _,hi.dom,fun b hb=>(hi.owl b hb).keep (hold b (hi.owl b hb).lt),fun b hb=>.inl hb,⟨?_,fun b hb _=>hold b hb,rfl,rfl,rfl,fun x hx=> ?_,fun _ hp=>nomatch hp⟩⟩⟩
  · simp
  · exact Sort.frozen?_grow (w.drewN k) os x hx
def b5x (n:Nat):ByteArray:=⟨(Lib.decDigits n).toArray⟩
theorem d5u {n:Nat} (h:n < 10):b5x n=⟨#[UInt8.ofNat (48+n)]⟩:=by
  simp_all[b5x,Lib.decDigits,dif_pos]
theorem d6p {n:Nat} (h:¬n < 10):b5x n=b5x (n / 10)++⟨#[UInt8.ofNat (48+n % 10)]⟩:=by
  unfold b5x
  conv=>lhs;rw [Lib.decDigits,dif_neg h]
  rfl
theorem f5k {n:Int} (h:0≤n):(⟨(Lib.itoa n).toArray⟩:ByteArray)=b5x n.toNat:=by
  simp_all[Lib.itoa,b5x,if_neg]
theorem b9e:∀(k n:Nat),n < 10 ^ k→0 < k→(b5x n).size≤k
  | 0,n,_,h=>by omega
  | 1,n,h,_=>by rw [d5u (by omega)];exact qlw 1
  | k + 2,n,h,_=>by
    by_cases q:n < 10
    · rw [d5u q];show 1≤k+2;omega
    · rw [d6p q,qln]
      have:=b9e (k+1) (n / 10) (by grind) (by omega);have e:(⟨#[UInt8.ofNat (48+n % 10)]⟩:ByteArray).size=1:=rfl;omega
def b5m (ws:List ByteArray) (sep:ByteArray):ByteArray:=⟨(Lib.join (ws.map (·.data.toList)) sep.data.toList).toArray⟩
theorem b8e (sep:ByteArray):b5m [] sep=ByteArray.empty:=rfl
theorem d74 {w:World} {μ:Nat→Option Loc}:∀(ws:List ByteArray) {vs:List Value} {bl:List Nat},RepL w μ ((ws.map V.str).flatMap V.cells) vs bl→vs=ws.map Value.string
  | [],_,_,.nil=>rfl
  | a ::ws,_,_,h=>by
    rw [List.map_cons,ql3] at h;cases h with
    | cons _ x _ _ xs _ h ht=>
      cases h;rw [d74 ws ht,List.map_cons]
theorem f4a {P:Program} {f:FuncId} {ws:List ByteArray} {sep:ByteArray} (hf:∃fn,P.funcs[f]? =some fn∧(fn.name == "runtime.NumGoroutine")=false∧fn.body.isNone=false)
    (h0:∀(a:Option Addr) (c:Nat) (w:World),Calls P f #[.slice a 0 c,.string sep] w fun e w'=>e=.returned (.string ⟨#[]⟩)∧w'=w)
    (h:∀(b o c:Nat) (w:World),(∀(j:Nat) x,ws[j]? =some x→w.cell? ⟨b,o+j,none⟩=some (.string x))→b < w.heap.size→ws.length≤c→
      Calls P f #[.slice (some ⟨b,o,none⟩) ws.length c,.string sep] w fun e w'=>e=.returned (.string (b5m ws sep))∧Below w.heap.size w w'):Con P f [.sl (ws.map V.str),.str sep] [] (.str (b5m ws sep)) []:=by
  refine ⟨hf,fun w vals μ ow vis hi=> ?_⟩;have hs:vals.size=2:=hi.sz;have h1:vals.getD 1 undef=.string sep:=by
    obtain ⟨bl,r0,_⟩:=hi.arg 1 _ rfl;generalize vals.getD 1 undef=x at r0⊢;cases r0;rfl
  obtain ⟨bl,r0,rv⟩:=hi.arg 0 _ rfl;have hv:vals=#[vals.getD 0 undef,.string sep]:=by
    apply Array.ext
    · omega
    · intro i hi1 hi2
      have hi3:i < 2:=by omega
      have e:vals.getD i undef=vals[i]:=by simp_all
      grind
  have key:Calls P f #[vals.getD 0 undef,.string sep] w fun e w'=>e=.returned (.string (b5m ws sep))∧Below w.heap.size w w':=by
    generalize hx:vals.getD 0 undef=x at r0⊢;generalize hxs:ws.map V.str=xs at r0;cases r0 with
    | sl0 a c=>
      have hw:ws=[]:=by cases ws with | nil=>rfl | cons a b=>grind
      subst hw;exact (h0 a c w).mono fun e w' ⟨he,hw⟩=>⟨he,hw ▸ Below.refl _ _⟩
    | sl _ b off c sz vs bl' g0 hc hs hz hl h1 hr=>
      subst hxs;have hvs:=d74 ws hl;subst hvs;have hne:ws≠[]:=fun e=>g0 (by grind)
      rw [qmj];refine h b off c w (fun j x hj=>hr j _ (by grind)) ?_ (by grind);cases ws with
      | nil=>grind
      | cons a ws=>exact Row.lt (vs:=ws.map Value.string) (by simpa using hr)
  rw [hv];refine key.mono ?_;rintro e w' ⟨rfl,hb⟩;have hold:∀b,b < w.heap.size→w'.heap[b]? =w.heap[b]? :=fun b hlt=>hb.block b hlt
  exact ⟨_,μ,ow,rfl,⟨⟨[],.str _,by simp⟩,by simp,by simp,MLe.refl _,qlw _,hi.dom,fun b hb'=>(hi.owl b hb').keep (hold b (hi.owl b hb').lt),fun b hb=>.inl hb,
    ⟨hb.size,fun b hlt _=>hold b hlt,hb.os,hb.tape,hb.output,fun x hx=>by grind[World.frozen?],fun _ hp=>nomatch hp⟩⟩⟩
end Go.Vm
namespace Go.Vm
open Go
structure Tys (p:Prop):Prop where
  h:p
structure Fc (p:Prop):Prop where
  h:p
structure Ho (p:Prop):Prop where
  h:p
structure Sd (p:Prop):Prop where
  h:p
theorem f8a {xs:List V} {i n:Nat} {y:V} (h:∀x∈xs,x.cells.length=n) (hy:y.cells.length=n):∀x∈xs.set i y,x.cells.length=n:=by
  intro x hx;rcases List.mem_or_eq_of_mem_set hx with q | q
  · exact h x q
  · rw [q];exact hy
theorem gdm {α:Type} {l:List α} {i:Nat} {x:α} (h:l[i]? =some x):∀f:α→V,(l.map f).getD i .any=f x:=fun _=>b4a h
theorem ai {a b:Prop} (h:a) (k:b):a∧b:=⟨h,k⟩
theorem b4b {A B:Prop} (b:B) (a:A:=by first | omega | (intros;omega) | (exact f5c (fun _=>rfl) rfl) | (exact f8a (fun x hx=>by obtain ⟨t,_,rfl⟩:=qmo.1 hx;rfl) rfl) | (have q:=‹Sd _›;exact q.h _) | (intros;simp_all;done) | (intros;simp_all;omega)):A∧B:=⟨a,b⟩
theorem d5z {A B:Prop} (b:B) (a:A:=by first | rfl | (intros;simp_all;done)):A∧B:=⟨a,b⟩
theorem rta {m:Nat} {s:St} {v r:V} {O':List Blk} (h2:v.only (fun id=>Nat.blt id m || (idx (b44 m v) id).isSome)=true:=by rfl) (h3:(b44 m v).Nodup:=by first | decide | simp [b44,b6a,c0q,c16]) (hm:m≤s.O.length:=by simp)
    (h4:v.ren (c1i m (b44 m v))=r:=by rfl) (h5:s.O.take m++(b44 m v).map (fun id=>s.O.getD id .dead)=O':=by simp [b44,b6a,c0q,c16]) (h6:∀bk∈O',bk.kindIs (fun k=>k != .shal && k.nm)=true:=by simp [Blk.kindIs,b5d]) (h7:v.clean=true:=by rfl):b57 m s v r O':=d1p h2 h3 hm h4 h5 h6 h7
theorem b5p {P:Program} {L:b4u} {s:St} {rg:Array Oper} {K:St→Prop} {o:Oper} {rest:List Oper} {d j:Nat} {want:Bool} (hd:o.dst=some d) (hn:Nat.blt d s.n=true) (hg:o.guard=some (j,want)) (hv:b04 s rg j want=some false) (h:d2o P L rg K rest (s.set (some d) (.opt false .any))):d2o P L rg K (o::rest) s:=
  f2u d j want hd (by rwa [Nat.blt_eq] at hn) hg hv h
theorem d7q {A B:Prop} (b:Ho B) (e:Ho B→A:=by
  intro b;refine b6g ?_;intro K k;simp only [zE,zS,zO,zN,b0w,b0s,b0k,Nat.reduceEqDiff,reduceIte,Nat.reduceLT,implies_true,forall_const,reduceCtorEq,V.ofValue,V.ofScalar,V.un,V.gd,b07,aop,Nat.reduceAdd,Value.oneCell',V.isVal,V.cells,b4o,b2t,V.noSl,V.noRef,List.all_cons,List.all_nil,List.map_cons,List.map_nil,gt_iff_lt,Nat.reduceLeDiff,Nat.reduceMul,b0v,‹Tys _›.h,‹Fc _›.h];repeat (refine b4b ?_)
  refine k _ ?_;clear k K;exact b.h):A:=e b
theorem f21 {A B:Prop} (b:Ho B) (e:Ho B→A:=by
  intro b;refine b6g ?_;intro K k;simp only [zE,zL,zO,zN,b0w,b0s,b0k,Nat.reduceEqDiff,reduceIte,Nat.reduceLT,implies_true,forall_const,reduceCtorEq,V.ofValue,V.ofScalar,V.un,V.gd,b07,aop,c44,beq_self_eq_true,List.nodup_cons,List.mem_singleton,forall_eq',List.size_toArray,List.getD_eq_getElem?_getD,Array.getD_eq_getD_getElem?,Option.getD_some,b7m,c7m,c9d,b4e,c0d,b1y,b2z,b1n,Blk.row,b4l,V.isSub,V.noSl,Value.cells,Option.toList,List.forall_mem_map,List.length_map,List.all_cons,List.all_nil,List.isEmpty_nil,List.isEmpty_cons,List.not_mem_nil,List.nodup_nil,d1z,d2e,d1i,d7w,d69,b92,c12,List.mem_cons,or_false,forall_eq_or_imp,forall_eq,List.set_cons_zero,List.set_cons_succ,List.length_append,Go.Vm.V.cells,Nat.reduceAdd,Nat.reduceLeDiff,Nat.reduceMul,b0v,Value.oneCell',‹Tys _›.h,‹Fc _›.h];repeat (refine b4b ?_)
  refine k _ ?_;clear k K;exact b.h):A:=e b
theorem b2l {A B:Prop} (b:Ho B) (e:Ho B→A:=by
  intro b;refine b6g ?_;intro K k;simp only [zE,zS,b0w,b0s,b0k,Nat.reduceEqDiff,reduceIte,Nat.reduceLT,implies_true,forall_const,reduceCtorEq,V.ofValue,V.ofScalar,V.un,V.gd,b07,aop,Nat.reduceAdd,b0v,Value.oneCell',List.all_cons,List.all_nil,Bool.and_self,‹Tys _›.h,‹Fc _›.h];repeat (refine b4b ?_)
  refine k _ ?_;clear k K;exact b.h):A:=e b
theorem c0m {A B:Prop} (b:Ho B) (e:Ho B→A:=by
  intro b;refine b6g ?_;intro K k;simp only [zE,b0w,b0s,b0k,Nat.reduceEqDiff,reduceIte,Nat.reduceLT,implies_true,forall_const,reduceCtorEq,V.ofValue,V.ofScalar,V.un,V.gd,b07,aop,d2p,c19,or_true,true_or,or_false,false_or,EK.fitsL,EK.fits,b4r,b7s,b0v,Value.oneCell',List.all_cons,List.all_nil,Bool.and_self,‹Tys _›.h,‹Fc _›.h];repeat (refine b4b ?_)
  refine k _ ?_;clear k K;exact b.h):A:=e b
theorem b6z {A B:Prop} (b:Ho B) (e:Ho B→A:=by
  intro b;refine b6g ?_;intro K k;simp only [zE,b0w,b0s,b0k,Nat.reduceEqDiff,reduceIte,Nat.reduceLT,implies_true,forall_const,reduceCtorEq,V.ofValue,V.ofScalar,V.un,V.gd,b07,aop,d2p,c19,or_true,true_or,or_false,false_or,EK.fitsL,EK.fits,b4r,b7s,b0v,Value.oneCell',List.all_cons,List.all_nil,Bool.and_self,‹Tys _›.h,‹Fc _›.h];try simp (disch:=omega) only [c4c]
  repeat (refine b4b ?_)
  refine k _ ?_;clear k K;exact b.h):A:=e b
theorem c2q {A B:Prop} (b:Ho B) (e:Ho B→A:=by
  intro b;first
  | refine b5p rfl rfl rfl ?_ ?_
    · first | rfl | (simp only [zV,b04,Nat.reduceEqDiff,reduceIte];done)
    simp only [zW,b0k,Nat.reduceEqDiff,reduceIte]
  | skip
    refine b6g ?_;intro K k;simp only [zE,zG,b0w,b0s,b0k,Nat.reduceEqDiff,reduceIte,Nat.reduceLT,implies_true,forall_const,reduceCtorEq,V.ofValue,V.ofScalar,V.un,V.gd,b04,V.wrap,b07,aop,d2p,c19,or_true,true_or,or_false,false_or,EK.fitsL,EK.fits,b4r,b7s,b0v,Value.oneCell',List.all_cons,List.all_nil,Bool.and_self,‹Tys _›.h,‹Fc _›.h];repeat (refine b4b ?_)
    refine k _ ?_;clear k K
  exact b.h):A:=e b
theorem f4s {A B:Prop} (b:Ho B) (e:Ho B→A:=by
  intro b;first
  | refine b5p rfl rfl rfl ?_ ?_
    · first | rfl | (simp only [zV,b04,Nat.reduceEqDiff,reduceIte];done)
    simp only [zW,b0k,Nat.reduceEqDiff,reduceIte]
  | skip
    refine b6g ?_;intro K k;simp only [zE,zG,b0w,b0s,b0k,Nat.reduceEqDiff,reduceIte,Nat.reduceLT,implies_true,forall_const,reduceCtorEq,V.ofValue,V.ofScalar,V.un,V.gd,b04,V.wrap,b07,aop,d2p,c19,or_true,true_or,or_false,false_or,EK.fitsL,EK.fits,b4r,b7s,b0v,Value.oneCell',List.all_cons,List.all_nil,Bool.and_self,‹Tys _›.h,‹Fc _›.h];try simp (disch:=omega) only [c4c]
    repeat (refine b4b ?_)
    refine k _ ?_;clear k K
  exact b.h):A:=e b
theorem g0h {A B:Prop} (b:Ho B) (e:Ho B→A:=by
  intro b;refine b6g ?_;intro K k;simp only [zE,zS,zO,zN,b0w,b0s,b0k,Nat.reduceEqDiff,reduceIte,Nat.reduceLT,implies_true,forall_const,reduceCtorEq,V.ofValue,V.ofScalar,V.un,V.gd,b07,aop,Nat.reduceAdd,V.isVal,V.cells,b4o,b2t,V.noSl,V.noRef,List.all_cons,List.all_nil,List.length_map,gt_iff_lt,Nat.reduceLeDiff,Nat.reduceMul,b0v,Value.oneCell',‹Tys _›.h,‹Fc _›.h];repeat (refine b4b ?_)
  refine k _ ?_;clear k K;exact b.h):A:=e b
theorem d0b {A B:Prop} (b:Ho B) (e:Ho B→A:=by
  intro b;refine b6g ?_;intro K k;simp only [zE,zL,zO,zN,b0w,b0s,b0k,Nat.reduceEqDiff,reduceIte,Nat.reduceLT,implies_true,forall_const,reduceCtorEq,V.ofValue,V.ofScalar,V.un,V.gd,b07,aop,c5j,if_true,Nat.zero_mul,Nat.one_mul,Nat.mul_one,V.isVal,V.cells,List.mem_cons,List.not_mem_nil,or_false,forall_eq_or_imp,forall_eq,Nat.reduceAdd,Nat.reduceLeDiff,Nat.reduceMul,b0v,Value.oneCell',List.all_cons,List.all_nil,‹Tys _›.h,‹Fc _›.h];repeat (refine b4b ?_)
  refine k _ ?_;clear k K;exact b.h):A:=e b
theorem f7i {A B:Prop} (b:Ho B) (e:Ho B→A:=by
  intro b;first
  | refine b5p rfl rfl rfl ?_ ?_
    · first | rfl | (simp only [zV,b04,Nat.reduceEqDiff,reduceIte];done)
    simp only [zW,b0k,Nat.reduceEqDiff,reduceIte]
  | skip
    refine b6g ?_;intro K k;simp only [zE,zL,zO,zN,b0w,b0s,b0k,Nat.reduceEqDiff,reduceIte,Nat.reduceLT,implies_true,forall_const,reduceCtorEq,V.ofValue,V.ofScalar,V.un,V.gd,b04,V.wrap,b07,aop,c5j,if_true,Nat.zero_mul,Nat.one_mul,Nat.mul_one,V.isVal,V.cells,List.mem_cons,List.not_mem_nil,or_false,forall_eq_or_imp,forall_eq,Nat.reduceAdd,Nat.reduceLeDiff,Nat.reduceMul,b0v,Value.oneCell',List.all_cons,List.all_nil,‹Tys _›.h,‹Fc _›.h];repeat (refine b4b ?_)
    refine k _ ?_;clear k K
  exact b.h):A:=e b
theorem b4q {A B:Prop} (b:Ho B) (e:Ho B→A:=by
  intro b;refine b6g ?_;intro K k;simp only [zE,zO,zN,b0w,b0s,b0k,Nat.reduceEqDiff,reduceIte,Nat.reduceLT,implies_true,forall_const,reduceCtorEq,V.ofValue,V.ofScalar,V.un,V.gd,b07,aop,b8x,f9b,f84,f9a,f83,f9e,f81,f89,f87,f85,f9d,f4v,f46,f5s,List.map_cons,List.map_nil,List.all_cons,List.all_nil,V.isVal,V.cells,b4g,b0v,b2t,V.noRef,V.noSl,List.mem_cons,List.not_mem_nil,or_false,forall_eq_or_imp,forall_eq,if_true,Option.isSome_some,List.length_cons,List.length_nil,Nat.reduceAdd,Nat.reduceLeDiff,Nat.reduceMul,Value.oneCell',‹Tys _›.h,‹Fc _›.h];repeat (refine b4b ?_)
  refine k _ ?_;clear k K;exact b.h):A:=e b
theorem f6p {A B:Prop} (b:Ho B) (e:Ho B→A:=by
  intro b;refine b6g ?_;intro K k;simp only [zE,zL,zO,zN,b0w,b0s,b0k,Nat.reduceEqDiff,reduceIte,Nat.reduceLT,implies_true,forall_const,reduceCtorEq,V.ofValue,V.ofScalar,V.un,V.gd,b07,aop,List.set_cons_zero,List.set_cons_succ,c3l,b4g,b0v,V.isVal,V.cells,V.noRef,List.size_toArray,List.getD_eq_getElem?_getD,Array.getD_eq_getD_getElem?,Option.getD_some,List.forall_mem_map,List.all_cons,List.all_nil,List.length_map,Value.oneCell',Nat.reduceAdd,Nat.reduceLeDiff,Nat.reduceMul,‹Tys _›.h,‹Fc _›.h];repeat (refine b4b ?_)
  refine k _ ?_;clear k K;exact b.h):A:=e b
theorem d7m {A B:Prop} (b:Ho B) (e:Ho B→A:=by
  intro b;refine b6g ?_;intro K k;simp only [zE,zL,zN,b0w,b0s,b0k,Nat.reduceEqDiff,reduceIte,Nat.reduceLT,implies_true,forall_const,reduceCtorEq,V.ofValue,V.ofScalar,V.un,V.gd,b07,aop,c2g,b1n,Blk.row,TypeDesc.slice.injEq,Nat.reduceAdd,Nat.reduceLeDiff,Nat.reduceMul,b0v,Value.oneCell',List.all_cons,List.all_nil,Bool.and_self,‹Tys _›.h,‹Fc _›.h];repeat (refine b4b ?_)
  refine k _ ?_;clear k K;exact b.h):A:=e b
theorem c3c {A B:Prop} (b:Ho B) (e:Ho B→A:=by
  intro b;refine b6g ?_;intro K k;simp only [zE,zL,zN,b0w,b0s,b0k,Nat.reduceEqDiff,reduceIte,Nat.reduceLT,implies_true,forall_const,reduceCtorEq,V.ofValue,V.ofScalar,V.un,V.gd,b07,aop,b8v,Nat.reduceAdd,Nat.reduceLeDiff,Nat.reduceMul,b0v,Value.oneCell',List.all_cons,List.all_nil,Bool.and_self,‹Tys _›.h,‹Fc _›.h];repeat (refine b4b ?_)
  refine k _ ?_;clear k K;exact b.h):A:=e b
theorem b5w {A B:Prop} (b:Ho B) (e:Ho B→A:=by
  intro b;refine b6g ?_;intro K k;simp only [zE,zL,zN,b0w,b0s,b0k,Nat.reduceEqDiff,reduceIte,Nat.reduceLT,implies_true,forall_const,reduceCtorEq,V.ofValue,V.ofScalar,V.un,V.gd,b07,aop,b3z,Nat.reduceAdd,Nat.reduceLeDiff,Nat.reduceMul,b0v,Value.oneCell',List.all_cons,List.all_nil,Bool.and_self,‹Tys _›.h,‹Fc _›.h];repeat (refine b4b ?_)
  refine k _ ?_;clear k K;exact b.h):A:=e b
theorem c7g {A B:Prop} (b:Ho B) (e:Ho B→A:=by
  intro b;first
  | refine b5p rfl rfl rfl ?_ ?_
    · first | rfl | (simp only [zV,b04,Nat.reduceEqDiff,reduceIte];done)
    simp only [zW,b0k,Nat.reduceEqDiff,reduceIte]
  | skip
    refine b6g ?_;intro K k;simp only [zE,zL,zN,b0w,b0s,b0k,Nat.reduceEqDiff,reduceIte,Nat.reduceLT,implies_true,forall_const,reduceCtorEq,V.ofValue,V.ofScalar,V.un,V.gd,b04,V.wrap,b07,aop,b3z,Nat.reduceAdd,Nat.reduceLeDiff,Nat.reduceMul,b0v,Value.oneCell',List.all_cons,List.all_nil,Bool.and_self,‹Tys _›.h,‹Fc _›.h];repeat (refine b4b ?_)
    refine k _ ?_;clear k K
  exact b.h):A:=e b
theorem f8k {A B:Prop} (b:Ho B) (e:Ho B→A:=by
  intro b;refine b6g ?_;intro K k;simp only [zE,zL,zN,b0w,b0s,b0k,Nat.reduceEqDiff,reduceIte,Nat.reduceLT,implies_true,forall_const,reduceCtorEq,V.ofValue,V.ofScalar,V.un,V.gd,b07,aop,b9k,Int.toNat_natCast,Int.reduceToNat,Nat.reduceAdd,Nat.reduceLeDiff,Nat.reduceMul,b0v,Value.oneCell',List.all_cons,List.all_nil,Bool.and_self,‹Tys _›.h,‹Fc _›.h];repeat (refine b4b ?_)
  refine k _ ?_;clear k K;exact b.h):A:=e b
theorem f6z {A B:Prop} (b:Ho B) (e:Ho B→A:=by
  intro b;first
  | refine b5p rfl rfl rfl ?_ ?_
    · first | rfl | (simp only [zV,b04,Nat.reduceEqDiff,reduceIte];done)
    simp only [zW,b0k,Nat.reduceEqDiff,reduceIte]
  | skip
    refine b6g ?_;intro K k;simp only [zE,zL,zN,b0w,b0s,b0k,Nat.reduceEqDiff,reduceIte,Nat.reduceLT,implies_true,forall_const,reduceCtorEq,V.ofValue,V.ofScalar,V.un,V.gd,b04,V.wrap,b07,aop,b9k,Int.toNat_natCast,Int.reduceToNat,Nat.reduceAdd,Nat.reduceLeDiff,Nat.reduceMul,b0v,Value.oneCell',List.all_cons,List.all_nil,Bool.and_self,‹Tys _›.h,‹Fc _›.h];repeat (refine b4b ?_)
    refine k _ ?_;clear k K
  exact b.h):A:=e b
theorem b78 {A B:Prop} (b:Ho B) (e:Ho B→A:=by
  intro b;refine b6g ?_;intro K k;simp only [zE,zL,zN,b0w,b0s,b0k,Nat.reduceEqDiff,reduceIte,Nat.reduceLT,implies_true,forall_const,reduceCtorEq,V.ofValue,V.ofScalar,V.un,V.gd,b07,aop,List.mem_cons,List.not_mem_nil,or_false,forall_eq_or_imp,forall_eq,b3q,b1n,Blk.row,Go.Vm.V.cells,List.forall_mem_map,List.length_map,Int.toNat_natCast,Int.reduceToNat,TypeDesc.slice.injEq,Nat.reduceAdd,Nat.reduceLeDiff,Nat.reduceMul,b0v,Value.oneCell',List.all_cons,List.all_nil,Bool.and_self,‹Tys _›.h,‹Fc _›.h];repeat (refine b4b ?_)
  refine k _ ?_;clear k K;exact b.h):A:=e b
theorem c7r {A B:Prop} (b:Ho B) (e:Ho B→A:=by
  intro b;first
  | refine b5p rfl rfl rfl ?_ ?_
    · first | rfl | (simp only [zV,b04,Nat.reduceEqDiff,reduceIte];done)
    simp only [zW,b0k,Nat.reduceEqDiff,reduceIte]
  | skip
    refine b6g ?_;intro K k;simp only [zE,zL,zN,b0w,b0s,b0k,Nat.reduceEqDiff,reduceIte,Nat.reduceLT,implies_true,forall_const,reduceCtorEq,V.ofValue,V.ofScalar,V.un,V.gd,b04,V.wrap,b07,aop,List.mem_cons,List.not_mem_nil,or_false,forall_eq_or_imp,forall_eq,b3q,b1n,Blk.row,Go.Vm.V.cells,List.forall_mem_map,List.length_map,Int.toNat_natCast,Int.reduceToNat,TypeDesc.slice.injEq,Nat.reduceAdd,Nat.reduceLeDiff,Nat.reduceMul,b0v,Value.oneCell',List.all_cons,List.all_nil,Bool.and_self,‹Tys _›.h,‹Fc _›.h];repeat (refine b4b ?_)
    refine k _ ?_;clear k K
  exact b.h):A:=e b
theorem f9n {A B:Prop} (b:Ho B) (e:Ho B→A:=by
  intro b;refine b6g ?_;intro K k;simp only [zE,zL,zN,b0w,b0s,b0k,Nat.reduceEqDiff,reduceIte,Nat.reduceLT,implies_true,forall_const,reduceCtorEq,V.ofValue,V.ofScalar,V.un,V.gd,b07,aop,List.length_map,f0r,c0x,b1n,Blk.row,List.size_toArray,List.getD_eq_getElem?_getD,Array.getD_eq_getD_getElem?,Option.getD_some,Nat.reduceAdd,Nat.reduceLeDiff,Nat.reduceMul,b0v,Value.oneCell',List.all_cons,List.all_nil,Bool.and_self,‹Tys _›.h,‹Fc _›.h];repeat (refine b4b ?_)
  refine k _ ?_;clear k K;exact b.h):A:=e b
theorem f5h {A B:Prop} (b:Ho B) (e:Ho B→A:=by
  intro b;first
  | refine b5p rfl rfl rfl ?_ ?_
    · first | rfl | (simp only [zV,b04,Nat.reduceEqDiff,reduceIte];done)
    simp only [zW,b0k,Nat.reduceEqDiff,reduceIte]
  | skip
    refine b6g ?_;intro K k;simp only [zE,zL,zN,b0w,b0s,b0k,Nat.reduceEqDiff,reduceIte,Nat.reduceLT,implies_true,forall_const,reduceCtorEq,V.ofValue,V.ofScalar,V.un,V.gd,b04,V.wrap,b07,aop,List.length_map,f0r,c0x,b1n,Blk.row,List.size_toArray,List.getD_eq_getElem?_getD,Array.getD_eq_getD_getElem?,Option.getD_some,Nat.reduceAdd,Nat.reduceLeDiff,Nat.reduceMul,b0v,Value.oneCell',List.all_cons,List.all_nil,Bool.and_self,‹Tys _›.h,‹Fc _›.h];repeat (refine b4b ?_)
    refine k _ ?_;clear k K
  exact b.h):A:=e b
theorem f4b {A B:Prop} (b:Ho B) (e:Ho B→A:=by
  intro b;refine b6g ?_;intro K k;simp only [zE,zL,zO,zN,b0w,b0s,b0k,Nat.reduceEqDiff,reduceIte,Nat.reduceLT,implies_true,forall_const,reduceCtorEq,V.ofValue,V.ofScalar,V.un,V.gd,b07,aop,b7q,b1n,Blk.row,b7r,Go.Vm.part,V.cells,V.noSl,V.noRef,Nat.reduceAdd,Nat.reduceLeDiff,Nat.reduceMul,b0v,Value.oneCell',List.all_cons,List.all_nil,‹Tys _›.h,‹Fc _›.h];repeat (refine b4b ?_)
  refine k _ ?_;clear k K;exact b.h):A:=e b
theorem f6x {A B:Prop} (b:Ho B) (e:Ho B→A:=by
  intro b;first
  | refine b5p rfl rfl rfl ?_ ?_
    · first | rfl | (simp only [zV,b04,Nat.reduceEqDiff,reduceIte];done)
    simp only [zW,b0k,Nat.reduceEqDiff,reduceIte]
  | skip
    refine b6g ?_;intro K k;simp only [zE,zL,zO,zN,b0w,b0s,b0k,Nat.reduceEqDiff,reduceIte,Nat.reduceLT,implies_true,forall_const,reduceCtorEq,V.ofValue,V.ofScalar,V.un,V.gd,b04,V.wrap,b07,aop,b7q,b1n,Blk.row,b7r,Go.Vm.part,V.cells,V.noSl,V.noRef,Nat.reduceAdd,Nat.reduceLeDiff,Nat.reduceMul,b0v,Value.oneCell',List.all_cons,List.all_nil,‹Tys _›.h,‹Fc _›.h];repeat (refine b4b ?_)
    refine k _ ?_;clear k K
  exact b.h):A:=e b
theorem f1k {A B:Prop} (b:Ho B) (e:Ho B→A:=by
  intro b;refine b6g ?_;intro K k;simp only [zE,zL,b0w,b0s,b0k,Nat.reduceEqDiff,reduceIte,Nat.reduceLT,implies_true,forall_const,reduceCtorEq,V.ofValue,V.ofScalar,V.un,V.gd,b07,aop,b0v,Value.oneCell',List.all_cons,List.all_nil,Bool.and_self,‹Tys _›.h,‹Fc _›.h];repeat (refine b4b ?_)
  refine k _ ?_;clear k K;exact b.h):A:=e b
theorem d9z {A B:Prop} (b:Ho B) (e:Ho B→A:=by
  intro b;first
  | refine b5p rfl rfl rfl ?_ ?_
    · first | rfl | (simp only [zV,b04,Nat.reduceEqDiff,reduceIte];done)
    simp only [zW,b0k,Nat.reduceEqDiff,reduceIte]
  | skip
    refine b6g ?_;intro K k;simp only [zE,zL,b0w,b0s,b0k,Nat.reduceEqDiff,reduceIte,Nat.reduceLT,implies_true,forall_const,reduceCtorEq,V.ofValue,V.ofScalar,V.un,V.gd,b04,V.wrap,b07,aop,b0v,Value.oneCell',List.all_cons,List.all_nil,Bool.and_self,‹Tys _›.h,‹Fc _›.h];repeat (refine b4b ?_)
    refine k _ ?_;clear k K
  exact b.h):A:=e b
theorem d9w {A B:Prop} (b:Ho B) (e:Ho B→A:=by
  intro b;refine b6g ?_;intro K k;simp only [zE,zL,zO,zN,b0w,b0s,b0k,Nat.reduceEqDiff,reduceIte,Nat.reduceLT,implies_true,forall_const,reduceCtorEq,V.ofValue,V.ofScalar,V.un,V.gd,b07,aop,b4g,V.isVal,V.cells,V.noRef,V.noSl,Int.toNat_natCast,Nat.reduceAdd,Nat.reduceLeDiff,Nat.reduceMul,b0v,Value.oneCell',List.all_cons,List.all_nil,‹Tys _›.h,‹Fc _›.h];repeat (refine b4b ?_)
  refine k _ ?_;clear k K;exact b.h):A:=e b
theorem g0j {A B:Prop} (b:Ho B) (e:Ho B→A:=by
  intro b;refine b6g ?_;intro K k;simp only [zE,b0w,b0s,b0k,Nat.reduceEqDiff,reduceIte,Nat.reduceLT,implies_true,forall_const,reduceCtorEq,V.ofValue,V.ofScalar,V.un,V.gd,b07,aop,b89,List.mem_cons,List.not_mem_nil,or_false,forall_eq_or_imp,forall_eq,List.map_cons,List.map_nil,if_true,if_false,b0v,Value.oneCell',List.all_cons,List.all_nil,Bool.and_self,‹Tys _›.h,‹Fc _›.h];repeat (refine b4b ?_)
  refine k _ ?_;clear k K;exact b.h):A:=e b
theorem b15 {A B:Prop} (b:Ho B) (e:Ho B→A:=by
  intro b;refine b6g ?_;intro K k;simp only [zE,b0w,b0s,b0k,Nat.reduceEqDiff,reduceIte,Nat.reduceLT,implies_true,forall_const,reduceCtorEq,V.ofValue,V.ofScalar,V.un,V.gd,b07,aop,b0v,Value.oneCell',List.all_cons,List.all_nil,Bool.and_self,‹Tys _›.h,‹Fc _›.h];repeat (refine b4b ?_)
  refine k _ ?_;clear k K;exact b.h):A:=e b
theorem b82 {A B:Prop} (b:Ho B) (e:Ho B→A:=by
  intro b;first
  | refine b5p rfl rfl rfl ?_ ?_
    · first | rfl | (simp only [zV,b04,Nat.reduceEqDiff,reduceIte];done)
    simp only [zW,b0k,Nat.reduceEqDiff,reduceIte]
  | skip
    refine b6g ?_;intro K k;simp only [zE,zG,b0w,b0s,b0k,Nat.reduceEqDiff,reduceIte,Nat.reduceLT,implies_true,forall_const,reduceCtorEq,V.ofValue,V.ofScalar,V.un,V.gd,b04,V.wrap,b07,aop,b0v,Value.oneCell',List.all_cons,List.all_nil,Bool.and_self,‹Tys _›.h,‹Fc _›.h];repeat (refine b4b ?_)
    refine k _ ?_;clear k K
  exact b.h):A:=e b
theorem f32 {A B:Prop} (b:Ho B) (e:Ho B→A:=by
  intro b;refine b6g ?_;intro K k;simp only [zE,b0w,b0s,b0k,Nat.reduceEqDiff,reduceIte,Nat.reduceLT,implies_true,forall_const,reduceCtorEq,V.ofValue,V.ofScalar,V.un,V.gd,b07,aop,b0v,Value.oneCell',List.all_cons,List.all_nil,Bool.and_self,‹Tys _›.h,‹Fc _›.h];repeat (refine b4b ?_)
  refine k _ ?_;clear k K;exact b.h):A:=e b
theorem f0a {A B:Prop} (b:Ho B) (e:Ho B→A:=by
  intro b;first
  | refine b5p rfl rfl rfl ?_ ?_
    · first | rfl | (simp only [zV,b04,Nat.reduceEqDiff,reduceIte];done)
    simp only [zW,b0k,Nat.reduceEqDiff,reduceIte]
  | skip
    refine b6g ?_;intro K k;simp only [zE,zG,b0w,b0s,b0k,Nat.reduceEqDiff,reduceIte,Nat.reduceLT,implies_true,forall_const,reduceCtorEq,V.ofValue,V.ofScalar,V.un,V.gd,b04,V.wrap,b07,aop,b0v,Value.oneCell',List.all_cons,List.all_nil,Bool.and_self,‹Tys _›.h,‹Fc _›.h];repeat (refine b4b ?_)
    refine k _ ?_;clear k K
  exact b.h):A:=e b
theorem c5l {A B:Prop} (b:Ho B) (e:Ho B→A:=by
  intro b;refine b6g ?_;intro K k;simp only [zE,zP,b0w,b0s,b0k,Nat.reduceEqDiff,reduceIte,Nat.reduceLT,implies_true,forall_const,reduceCtorEq,V.ofValue,V.ofScalar,V.un,V.gd,b07,aop,d4g,b0v,Value.oneCell',List.all_cons,List.all_nil,Bool.and_self,‹Tys _›.h,‹Fc _›.h];repeat (refine b4b ?_)
  refine k _ ?_;clear k K;exact b.h):A:=e b
theorem f13 {A B:Prop} (b:Ho B) (e:Ho B→A:=by
  intro b;first
  | refine b5p rfl rfl rfl ?_ ?_
    · first | rfl | (simp only [zV,b04,Nat.reduceEqDiff,reduceIte];done)
    simp only [zW,b0k,Nat.reduceEqDiff,reduceIte]
  | skip
    refine b6g ?_;intro K k;simp only [zE,zP,zG,b0w,b0s,b0k,Nat.reduceEqDiff,reduceIte,Nat.reduceLT,implies_true,forall_const,reduceCtorEq,V.ofValue,V.ofScalar,V.un,V.gd,b04,V.wrap,b07,aop,d4g,b0v,Value.oneCell',List.all_cons,List.all_nil,Bool.and_self,‹Tys _›.h,‹Fc _›.h];repeat (refine b4b ?_)
    refine k _ ?_;clear k K
  exact b.h):A:=e b
theorem f6c {A B:Prop} (b:Ho B) (e:Ho B→A:=by
  intro b;refine b6g ?_;intro K k;simp only [zE,zL,zN,b0w,b0s,b0k,Nat.reduceEqDiff,reduceIte,Nat.reduceLT,implies_true,forall_const,reduceCtorEq,V.ofValue,V.ofScalar,V.un,V.gd,b07,aop,List.set_cons_zero,List.set_cons_succ,b9p,forall_eq',c0w,c0g,Option.map_none,Option.isNone_none,b1n,Blk.row,TypeDesc.slice.injEq,List.forall_mem_map,List.length_map,Go.Vm.V.cells,Int.toNat_natCast,Int.reduceToNat,←List.map_take,←List.map_drop,List.take_length,Nat.reduceAdd,Nat.reduceLeDiff,Nat.reduceMul,b0v,Value.oneCell',List.all_cons,List.all_nil,Bool.and_self,‹Tys _›.h,‹Fc _›.h];repeat (refine b4b ?_)
  refine k _ ?_;clear k K;exact b.h):A:=e b
theorem b7a {A B:Prop} (b:Ho B) (e:Ho B→A:=by
  intro b;refine b6g ?_;intro K k;simp only [zE,zS,zJ,zL,zO,zN,b0w,b0s,b0k,Nat.reduceEqDiff,reduceIte,Nat.reduceLT,implies_true,forall_const,reduceCtorEq,V.ofValue,V.ofScalar,V.un,V.gd,b07,aop,b8n,b2c,V.isVal,V.cells,b4o,b2t,V.noSl,V.noRef,gt_iff_lt,Nat.reduceAdd,Nat.reduceLeDiff,Nat.reduceMul,c0d,b1y,b2z,b1n,Blk.row,b4l,Nat.reduceBEq,c9z,b0v,Value.oneCell',‹Tys _›.h,‹Fc _›.h];repeat (refine b4b ?_)
  refine k _ ?_;clear k K;exact b.h):A:=e b
theorem f4l {A B:Prop} (b:Ho B) (e:Ho B→A:=by
  intro b;refine b6g ?_;intro K k;simp only [zE,b0w,b0s,b0k,Nat.reduceEqDiff,reduceIte,Nat.reduceLT,implies_true,forall_const,reduceCtorEq,V.ofValue,V.ofScalar,V.un,V.gd,b07,aop,aUn,b0v,Value.oneCell',List.all_cons,List.all_nil,Bool.and_self,‹Tys _›.h,‹Fc _›.h];repeat (refine b4b ?_)
  refine k _ ?_;clear k K;exact b.h):A:=e b
theorem d3r {A B:Prop} (b:Ho B) (e:Ho B→A:=by
  intro b;first
  | refine b5p rfl rfl rfl ?_ ?_
    · first | rfl | (simp only [zV,b04,Nat.reduceEqDiff,reduceIte];done)
    simp only [zW,b0k,Nat.reduceEqDiff,reduceIte]
  | skip
    refine b6g ?_;intro K k;simp only [zE,zG,b0w,b0s,b0k,Nat.reduceEqDiff,reduceIte,Nat.reduceLT,implies_true,forall_const,reduceCtorEq,V.ofValue,V.ofScalar,V.un,V.gd,b04,V.wrap,b07,aop,aUn,b0v,Value.oneCell',List.all_cons,List.all_nil,Bool.and_self,‹Tys _›.h,‹Fc _›.h];repeat (refine b4b ?_)
    refine k _ ?_;clear k K
  exact b.h):A:=e b
theorem f91 {A B:Prop} (b:Ho B) (e:Ho B→A:=by
  intro b;refine b6g ?_;intro K k;simp only [zE,b0w,b0s,b0k,Nat.reduceEqDiff,reduceIte,Nat.reduceLT,implies_true,forall_const,reduceCtorEq,V.ofValue,V.ofScalar,V.un,V.gd,b07,aop,d2p,c19,or_true,true_or,or_false,false_or,EK.fitsL,EK.fits,b4r,b7s,f9w,TypeDesc.slice.injEq,f7b,f7e,b0v,Value.oneCell',List.all_cons,List.all_nil,Bool.and_self,‹Tys _›.h,‹Fc _›.h];repeat (refine b4b ?_)
  intro nb hnb;refine k _ ?_;clear k K;revert nb hnb;exact b.h):A:=e b
theorem zk {A B:Prop} (b:Ho B) (e:Ho B→A:=by
  intro b;simp only [b02,b0n,b0l,b0j,b0u,Nat.reduceEqDiff,reduceIte];exact b.h):A:=e b
theorem zCl {A B:Prop} (b:Ho B) (e:Ho B→A:=by
  intro b;simp only [zE,zL,zO,zN,b0w,b0s,b0k,Nat.reduceEqDiff,reduceIte,Nat.reduceLT,implies_true,forall_const,reduceCtorEq,V.ofValue,V.ofScalar,V.un,V.gd,b7q,b1n,Blk.row,b7r,Go.Vm.part,V.cells,V.noSl,V.noRef,Nat.reduceAdd,Nat.reduceLeDiff,Nat.reduceMul,‹Tys _›.h];exact b.h):A:=e b
theorem zf {A B:Prop} (b:Ho B) (e:Ho B→A:=by
  intro b;simp only [c9b,b6r,c3q,b0j,b0u,Nat.reduceEqDiff,reduceIte,List.map_cons,List.map_nil];exact b.h):A:=e b
theorem b0a {P:Program} {L:b4u} {m:Nat} {Q:AEx→St→Prop} {s:St} {c:Operand} {x y:Code} (b:Bool) (hc:s.ev c=.bool b) {p q:Prop} (h1:p→awp P L m x Q s) (h2:q→awp P L m y Q s)
    (hp:b=true→p:=by first | (intro h;simp only [zC,reduceCtorEq] at h;exact h) | exact fun h=>h) (hq:b=false→q:=by first | (intro h;simp only [zC,reduceCtorEq] at h;exact h) | exact fun h=>h):awp P L m (.cond c x y) Q s:=
  b18 b hc (fun h=>h1 (hp h)) (fun h=>h2 (hq h))
theorem b0d {m:Nat} {s s':St} {B:Prop} (ks ids:List Nat) (b:Ho B) (hn:ids.Nodup:=by decide) (hm:∀j,j < m→ids[j]? =some j:=by simp)
    (he:∀p∈(s.keep ks).env,p.2.only (fun id=>(idx ids id).isSome)=true:=by simp [b02,b0n,b0l,b0j,V.only,V.onlyL,idx]<;>(first | rfl | decide))
    (hb:∀id∈ids,∀bk,s.O[id]? =some bk→bk.kindIs (fun k=>k.nm)=true:=by simp [Blk.kindIs,b05,b1s])
    (e:Ho B→(s.keep ks).comp ids=s':=by
      intro b;simp only [b02,b0n,b0l,b0j,b0u,Nat.reduceEqDiff,reduceIte,St.comp,List.map_cons,List.map_nil,V.ren,V.renL,idx,List.getD_cons_zero,List.getD_cons_succ,Nat.reduceBEq,cond_true,cond_false,Option.map_some,Option.getD_some,Nat.reduceAdd,c7n,decide_true,decide_false];exact b.h):b6j m s s':=b7e ks ids hn hm he hb (e b)
theorem b8a {m:Nat} {s s':St} {B:Prop} (ks ids:List Nat) (b:Ho B) (hn:ids.Nodup:=by decide) (hm:∀j,j < m→ids[j]? =some j:=by simp)
    (he:∀p∈(s.keep ks).env,p.2.only (fun id=>(idx ids id).isSome)=true:=by simp [b02,b0n,b0l,b0j,V.only,V.onlyL,idx,‹Caps _›.cn]<;>(first | rfl | decide))
    (hb:∀id∈ids,∀bk,s.O[id]? =some bk→bk.kindIs (fun k=>k.nm)=true:=by simp [Blk.kindIs,b05,b1s])
    (e:Ho B→(s.keep ks).comp ids=s':=by
      intro b;simp only [b02,b0n,b0l,b0j,b0u,Nat.reduceEqDiff,reduceIte,St.comp,List.map_cons,List.map_nil,V.ren,V.renL,idx,List.getD_cons_zero,List.getD_cons_succ,Nat.reduceBEq,cond_true,cond_false,Option.map_some,Option.getD_some,Nat.reduceAdd,c7n,decide_true,decide_false,‹Caps _›.cr];exact b.h):b6j m s s':=b7e ks ids hn hm he hb (e b)
theorem b1o {m:Nat} {s s':St} {B:Prop} (ks ids:List Nat) (b:Ho B) (hn:ids.Nodup:=by decide) (hm:∀j,j < m→ids[j]? =some j:=by simp)
    (he:∀p∈(s.keep ks).env,p.2.only (fun id=>(idx ids id).isSome)=true:=by simp [b02,b0n,b0l,b0j,V.only,V.onlyL,idx]<;>(first | rfl | decide))
    (hb:∀id∈ids,∀bk,s.O[id]? =some bk→bk.onlyM (fun id=>(idx ids id).isSome)=true:=by simp [Blk.onlyM,b1b,b2b,b1c,b8b,b1m,b7x,b1x,b9m,V.only,V.onlyL,idx]<;>(first | rfl | decide))
    (e:Ho B→(s.keep ks).compM ids=s':=by
      intro b;simp only [b02,b0n,b0l,b0j,b0u,Nat.reduceEqDiff,reduceIte,St.compM,Blk.renM,b1b,b2b,b1c,b8b,b1m,b7x,b1x,b9m,List.map_cons,List.map_nil,V.ren,V.renL,idx,List.getD_cons_zero,List.getD_cons_succ,Nat.reduceBEq,cond_true,cond_false,Option.map_some,Option.getD_some,Nat.reduceAdd,c7n,decide_true,decide_false];exact b.h):b6j m s s':=c11 ks ids hn hm he hb (e b)
theorem d7d {m:Nat} {s:St} (ks ids:List Nat) (hn:ids.Nodup:=by decide) (hm:∀j,j < m→ids[j]? =some j:=by simp)
    (he:∀p∈(s.keep ks).env,p.2.only (fun id=>(idx ids id).isSome)=true:=by simp [b02,b0n,b0l,b0j,V.only,V.onlyL,idx]<;>(first | rfl | decide))
    (hb:∀id∈ids,∀bk,s.O[id]? =some bk→bk.onlyM (fun id=>(idx ids id).isSome)=true:=by simp [Blk.onlyM,b1b,b2b,b1c,b8b,b1m,b7x,b1x,b9m,V.only,V.onlyL,idx]<;>(first | rfl | decide)):b6j m s ((s.keep ks).compM ids):=c11 ks ids hn hm he hb rfl
theorem b0q {m:Nat} {s s':St} (ks ids:List Nat) (hn:ids.Nodup:=by decide) (hm:∀j,j < m→ids[j]? =some j:=by simp)
    (he:∀p∈(s.keep ks).env,p.2.only (fun id=>(idx ids id).isSome)=true:=by simp [b02,b0n,b0l,b0j,V.only,V.onlyL,idx]<;>(first | rfl | decide))
    (hb:∀id∈ids,∀bk,s.O[id]? =some bk→bk.onlyM (fun id=>(idx ids id).isSome)=true:=by simp [Blk.onlyM,b1b,b2b,b1c,b8b,b1m,b7x,b1x,b9m,V.only,V.onlyL,idx]<;>(first | rfl | decide))
    (e:(s.keep ks).compM ids=s':=by first | (simp only [b02,b0n,b0l,b0j,b0u,Nat.reduceEqDiff,reduceIte,St.compM,Blk.renM,b1b,b2b,b1c,b8b,b1m,b7x,b1x,b9m,List.map_cons,List.map_nil,V.ren,V.renL,idx,List.getD_cons_zero,List.getD_cons_succ,Nat.reduceBEq,cond_true,cond_false,Option.map_some,Option.getD_some,Nat.reduceAdd,c7n,decide_true,decide_false];done) | rfl):b6j m s s':=c11 ks ids hn hm he hb e
theorem zkm {A B:Prop} (b:Ho B) (e:Ho B→A:=by
  intro b;simp only [b02,b0n,b0l,b0j,b0u,Nat.reduceEqDiff,reduceIte,St.compM,Blk.renM,b1b,b2b,b1c,b8b,b1m,b7x,b1x,b9m,List.map_cons,List.map_nil,V.ren,V.renL,idx,List.getD_cons_zero,List.getD_cons_succ,Nat.reduceBEq,cond_true,cond_false,Option.map_some,Option.getD_some,Nat.reduceAdd,c7n,decide_true,decide_false];exact b.h):A:=e b
theorem zc {C A B:Prop} (con:C) (b:Ho B) (e:C→Ho B→A:=by
  intro con b;refine b6g ?_;intro K k;simp only [zE,zM,b0w,b0s,b0k,Nat.reduceEqDiff,reduceIte,Nat.reduceLT,implies_true,forall_const,reduceCtorEq,V.ofValue,V.ofScalar,V.un,V.gd,b07,b4i,b43,‹Tys _›.h,‹Fc _›.h];repeat (refine d5z ?_)
  refine b7c con (by first | rfl | (simp only [b1w,b3e,b1q,b1g,b2p,Option.map_some,idx,b1n,List.getElem?_cons_zero,List.getElem?_cons_succ,Option.bind_some,Blk.row,b05,b1s,b11,b10,b13,b14,cond_true,List.map_take];done) | (simp [b1w,b3e,b1q,b1g,b2p,idx,b1n,Blk.row,b05,b1s,b11,b10,b13,b14,Nat.beq_refl];done)) (by first | exact .inl ⟨rfl,by simp [Blk.kindIs,b5d,c0h]⟩ | exact .inr (by simp [V.cold])) ?_;refine k _ ?_;clear k K;simp only [zY,zW,b0k,Nat.reduceEqDiff,reduceIte,V.ren,V.renL,rho,Nat.reduceAdd];exact b.h):A:=e con b
theorem zcl {C A B:Prop} (con:C) (b:Ho B) (e:C→Ho B→A:=by
  intro con b;refine b6g ?_;intro K k;simp only [zE,zM,b0w,b0s,b0k,Nat.reduceEqDiff,reduceIte,Nat.reduceLT,implies_true,forall_const,reduceCtorEq,V.ofValue,V.ofScalar,V.un,V.gd,b07,b4i,b43,‹Tys _›.h,‹Fc _›.h];repeat (refine d5z ?_)
  refine c4m _ con (by first | rfl | (simp only [b1w,b3e,b1q,b1g,b2p,Option.map_some,idx,b1n,List.getElem?_cons_zero,List.getElem?_cons_succ,Option.bind_some,Blk.row,b05,b1s,b11,b10,b13,b14,cond_true,List.map_take];done) | (simp [b1w,b3e,b1q,b1g,b2p,idx,b1n,Blk.row,b05,b1s,b11,b10,b13,b14,Nat.beq_refl];done)) (by rfl) ⟨by simp [Blk.kindIs,b05,b1s],by simp⟩ (by first | exact .inl rfl | exact .inr (by simp [Blk.kindIs])) ⟨rfl,by simp [Blk.kindIs,b5d,c0h]⟩ ?_;refine k _ ?_;clear k K;simp only [zY,zW,b0k,Nat.reduceEqDiff,reduceIte,c4p,d82,V.ren,V.renL,List.set_cons_zero,List.set_cons_succ,Nat.reduceAdd];exact b.h):A:=e con b
theorem zcc {C A B:Prop} (con:C) (b:Ho B) (e:C→Ho B→A:=by
  intro con b;refine b6g ?_;intro K k;simp only [zE,zM,b0w,b0s,b0k,Nat.reduceEqDiff,reduceIte,Nat.reduceLT,implies_true,forall_const,reduceCtorEq,V.ofValue,V.ofScalar,V.un,V.gd,b07,b4i,b43,‹Tys _›.h,‹Fc _›.h];repeat (refine d5z ?_)
  refine b7c con (by first | rfl | (simp only [b1w,b3e,b1q,b1g,b2p,Option.map_some,idx,b1n,List.getElem?_cons_zero,List.getElem?_cons_succ,Option.bind_some,Blk.row,b05,b1s,b11,b10,b13,b14,cond_true,List.map_take,‹Caps _›.cc,‹Caps _›.ca];done) | (simp [b1w,b3e,b1q,b1g,b2p,idx,b1n,Blk.row,b05,b1s,b11,b10,b13,b14,Nat.beq_refl,‹Caps _›.cc,‹Caps _›.ca];done)) (by first | exact .inl ⟨rfl,by simp [Blk.kindIs,b5d,c0h]⟩ | exact .inr (by simp [V.cold])) ?_;refine k _ ?_;clear k K;simp only [zY,zW,b0k,Nat.reduceEqDiff,reduceIte,V.ren,V.renL,rho,Nat.reduceAdd];exact b.h):A:=e con b
theorem g0c {C A B:Prop} (con:C) (b:Ho B) (e:C→Ho B→A:=by
  intro con b;refine b6g ?_;intro K k;simp only [zE,zM,b0w,b0s,b0k,Nat.reduceEqDiff,reduceIte,Nat.reduceLT,implies_true,forall_const,reduceCtorEq,V.ofValue,V.ofScalar,V.un,V.gd,b07,b4i,b43,‹Tys _›.h,‹Fc _›.h];repeat (refine d5z ?_)
  refine d62 _ _ _ con (by first | rfl | (simp only [b1w,b3e,b1q,b1g,b2p,Option.map_some,idx,b1n,List.getElem?_cons_zero,List.getElem?_cons_succ,Option.bind_some,Blk.row,b05,b1s,b11,b10,b13,b14,cond_true,List.map_take];done) | (simp [b1w,b3e,b1q,b1g,b2p,idx,b1n,Blk.row,b05,b1s,b11,b10,b13,b14,Nat.beq_refl];done)) (by rfl) (by rfl) (by rfl) (by decide) (by simp [Blk.kindIs,b05,b1s]) (by first | exact .inl rfl | exact .inr (by simp [Blk.kindIs])) ⟨rfl,by simp [Blk.kindIs,b5d,c0h]⟩ ?_;refine k _ ?_;clear k K;simp only [zY,zW,b0k,Nat.reduceEqDiff,reduceIte,f8z,f75,f8j,f8f,V.ren,V.renL,List.set_cons_zero,List.set_cons_succ,Nat.reduceAdd,Nat.add_zero];exact b.h):A:=e con b
theorem c9a {P:Program} {s:St} {f:FuncId} {args args':List V} {R:V→List Blk→Prop} {g:V→St→St} {K X:St→Prop} (k:∀s,X s→K s) (hc:b74 P f args' [] R)
    (h:∀r O',R r O'→((r.clean=true∧∀b∈O',b.kindIs (fun k=>k != .shal && k.nm)=true)∨(∀x∈args,x.coldIn []=true))∧X (g (r.ren (rho [] s.O.length)) {s with O:=s.O++O'})) (ht:b1w s [] args=some args':=by first | rfl | (simp only [b1w,b3e,b1q,b1g,b2p,Option.map_some,idx,b1n,List.getElem?_cons_zero,List.getElem?_cons_succ,Option.bind_some,Blk.row,b05,b1s,b11,b10,b13,b14,cond_true,List.map_take];done) | (simp [b1w,b3e,b1q,b1g,b2p,idx,b1n,Blk.row,b05,b1s,b11,b10,b13,b14,Nat.beq_refl];done) | (simp only [b1w,b3e,b1q,b1g,b2p,Option.map_some,idx,b1n,List.getElem?_cons_zero,List.getElem?_cons_succ,Option.bind_some,Blk.row,b05,b1s,b11,b10,b13,b14,cond_true,cond_false,Option.map_none,Nat.reduceAdd,List.map_take,Nat.beq_refl,‹Fc _›.h];done)):b9o P s f [] args (fun v s'=>K (g v s')):=
  d9u hc ht fun r O' q=>⟨(h r O' q).1,k _ (h r O' q).2⟩
theorem c00 {P:Program} {s:St} {f:FuncId} {args args':List V} {R:V→List Blk→Prop} {g:V→St→St} {K X:St→Prop} (k:∀s,X s→K s) {bk:Blk} {id:Nat} (hc:b74 P f args' [bk] R)
    (h:∀r O',R r O'→∃bk' O1,O'=bk'::O1∧((r.clean=true∧∀b∈O',b.kindIs (fun k=>k != .shal && k.nm)=true)∨(∀x∈args,x.coldIn [id]=true))∧X (g (r.ren (rho [id] s.O.length)) {s with O:=s.O.set id bk'++O1})) (ht:b1w s [id] args=some args':=by first | rfl | (simp only [b1w,b3e,b1q,b1g,b2p,Option.map_some,idx,b1n,List.getElem?_cons_zero,List.getElem?_cons_succ,Option.bind_some,Blk.row,b05,b1s,b11,b10,b13,b14,cond_true,List.map_take];done) | (simp [b1w,b3e,b1q,b1g,b2p,idx,b1n,Blk.row,b05,b1s,b11,b10,b13,b14,Nat.beq_refl];done) | (simp only [b1w,b3e,b1q,b1g,b2p,Option.map_some,idx,b1n,List.getElem?_cons_zero,List.getElem?_cons_succ,Option.bind_some,Blk.row,b05,b1s,b11,b10,b13,b14,cond_true,cond_false,Option.map_none,Nat.reduceAdd,List.map_take,Nat.beq_refl,‹Fc _›.h];done)) (hO:s.O[id]? =some bk:=by first | rfl | assumption) (hbk:bk.kindIs (fun k=>k.nm)=true∧bk≠.dead:=by exact ⟨by simp [Blk.kindIs,b05,b1s],by simp⟩)
    (hv:s.vw=false∨bk.kindIs (fun k=>k == .flat)=true:=by first | exact .inl rfl | exact .inr (by simp [Blk.kindIs])):b9o P s f [id] args (fun v s'=>K (g v s')):=
  c67 id hc ht hO hbk hv fun r O' q=>(h r O' q).imp fun _ h=>h.imp fun _ h=>⟨h.1,h.2.1,k _ h.2.2⟩
theorem c3g {P:Program} {s:St} {f:FuncId} {args args':List V} {R:V→List Blk→Prop} {g:V→St→St} {K X:St→Prop} (k:∀s,X s→K s) {bk bk2:Blk} {i j:Nat} (hc:b74 P f args' [bk,bk2] R)
    (h:∀r O',R r O'→∃b1 b2 O1,O'=b1::b2::O1∧((r.clean=true∧∀b∈O',b.kindIs (fun k=>k != .shal && k.nm)=true)∨(∀x∈args,x.coldIn [i,j]=true))∧X (g (r.ren (rho [i,j] s.O.length)) {s with O:=(s.O.set i b1).set j b2++O1})) (ht:b1w s [i,j] args=some args':=by first | rfl | (simp only [b1w,b3e,b1q,b1g,b2p,Option.map_some,idx,b1n,List.getElem?_cons_zero,List.getElem?_cons_succ,Option.bind_some,Blk.row,b05,b1s,b11,b10,b13,b14,cond_true,List.map_take];done) | (simp [b1w,b3e,b1q,b1g,b2p,idx,b1n,Blk.row,b05,b1s,b11,b10,b13,b14,Nat.beq_refl];done) | (simp only [b1w,b3e,b1q,b1g,b2p,Option.map_some,idx,b1n,List.getElem?_cons_zero,List.getElem?_cons_succ,Option.bind_some,Blk.row,b05,b1s,b11,b10,b13,b14,cond_true,cond_false,Option.map_none,Nat.reduceAdd,List.map_take,Nat.beq_refl,‹Fc _›.h];done)) (hO:s.O[i]? =some bk:=by first | rfl | assumption) (hO2:s.O[j]? =some bk2:=by first | rfl | assumption) (hn:i≠j:=by first | decide | assumption | exact Ne.symm (by assumption)) (hbk:(bk.kindIs (fun k=>k.nm)=true∧bk≠.dead)∧(bk2.kindIs (fun k=>k.nm)=true∧bk2≠.dead):=by exact ⟨⟨by simp [Blk.kindIs,b05,b1s],by simp⟩,⟨by simp [Blk.kindIs,b05,b1s],by simp⟩⟩)
    (hv:s.vw=false:=by rfl):b9o P s f [i,j] args (fun v s'=>K (g v s')):=
  d3c i j hc ht hO hO2 hn hbk hv fun r O' q=>(h r O' q).imp fun _ h=>h.imp fun _ h=>h.imp fun _ h=>⟨h.1,h.2.1,k _ h.2.2⟩
theorem zxn {C A B:Prop} (con:C) (b:Ho B) (e:C→Ho B→A:=by
  intro con b;refine b6g ?_;intro K k;simp only [zE,zM,b0w,b0s,b0k,Nat.reduceEqDiff,reduceIte,Nat.reduceLT,implies_true,forall_const,reduceCtorEq,V.ofValue,V.ofScalar,V.un,V.gd,b07,b4i,b43,‹Tys _›.h,‹Fc _›.h];repeat (refine d5z ?_)
  exact c9a k con b.h):A:=e con b
theorem f7x {C A B:Prop} (con:C) (b:Ho B) (e:C→Ho B→A:=by
  intro con b;intro K k;simp only [zE,zM,b0w,b0s,b0k,Nat.reduceEqDiff,reduceIte,Nat.reduceLT,implies_true,forall_const,reduceCtorEq,V.ofValue,V.ofScalar,V.un,V.gd,b07,b4i,b43,‹Tys _›.h,‹Fc _›.h];repeat (refine d5z ?_)
  exact c9a k con b.h):A:=e con b
theorem zxl {C A B:Prop} (con:C) (b:Ho B) (e:C→Ho B→A:=by
  intro con b;refine b6g ?_;intro K k;simp only [zE,zM,b0w,b0s,b0k,Nat.reduceEqDiff,reduceIte,Nat.reduceLT,implies_true,forall_const,reduceCtorEq,V.ofValue,V.ofScalar,V.un,V.gd,b07,b4i,b43,‹Tys _›.h,‹Fc _›.h];repeat (refine d5z ?_)
  exact c00 k con b.h):A:=e con b
theorem d64 {C A B:Prop} (con:C) (b:Ho B) (e:C→Ho B→A:=by
  intro con b;intro K k;simp only [zE,zM,b0w,b0s,b0k,Nat.reduceEqDiff,reduceIte,Nat.reduceLT,implies_true,forall_const,reduceCtorEq,V.ofValue,V.ofScalar,V.un,V.gd,b07,b4i,b43,‹Tys _›.h,‹Fc _›.h];repeat (refine d5z ?_)
  exact c00 k con b.h):A:=e con b
theorem f9i {P:Program} {L:b4u} {rg:Array Oper} {K:St→Prop} {fuel:Nat} {listed:Array Bool} {s:St} {oi:Oper} {rest:List Oper} {B:Prop} {C:Prop} (i:Nat) (con:C) (b:Ho B) (hi:rg.toList.drop i=oi::rest:=by rfl) (hr:Region.ready .any rg listed=[i]:=by kernel_rfl)
    (e:C→Ho B→(∀K':St→Prop,(∀s,b1r P L rg K fuel (listed.setIfInBounds i true) s→K' s)→b0w P L rg oi s K'):=by
  intro con b;intro K k;simp only [zE,zM,b0w,b0s,b0k,Nat.reduceEqDiff,reduceIte,Nat.reduceLT,implies_true,forall_const,reduceCtorEq,V.ofValue,V.ofScalar,V.un,V.gd,b07,b4i,b43,‹Tys _›.h,‹Fc _›.h];repeat (refine d5z ?_)
  exact c00 k con b.h):b1r P L rg K (fuel+1) listed s:=b5k i hi hr (e con b)
theorem zxt {C A B:Prop} (con:C) (b:Ho B) (e:C→Ho B→A:=by
  intro con b;refine b6g ?_;intro K k;simp only [zE,zM,b0w,b0s,b0k,Nat.reduceEqDiff,reduceIte,Nat.reduceLT,implies_true,forall_const,reduceCtorEq,V.ofValue,V.ofScalar,V.un,V.gd,b07,b4i,b43,‹Tys _›.h,‹Fc _›.h];repeat (refine d5z ?_)
  exact c3g k con b.h):A:=e con b
theorem f9c {C A B:Prop} (con:C) (b:Ho B) (e:C→Ho B→A:=by
  intro con b;intro K k;simp only [zE,zM,b0w,b0s,b0k,Nat.reduceEqDiff,reduceIte,Nat.reduceLT,implies_true,forall_const,reduceCtorEq,V.ofValue,V.ofScalar,V.un,V.gd,b07,b4i,b43,‹Tys _›.h,‹Fc _›.h];repeat (refine d5z ?_)
  exact c3g k con b.h):A:=e con b
theorem zEn {A B:Prop} (b:Ho B) (e:Ho B→A:=by
  intro b;refine ⟨by first | exact .inr (qlf.1 rfl) | (refine .inl ⟨rfl,?_⟩;simp [Blk.kindIs,b5d,c0h];done) | (refine .inr ?_;simp [V.coldIn,V.cold,idx];done) | (refine .inr ?_;simp [V.coldIn,V.cold,idx,Nat.beq_refl,‹Fc _›.h];done),?_⟩;simp only [zY,zW,b0k,Nat.reduceEqDiff,reduceIte,c4p,d82,f3d,f1i,f3t,V.ren,V.renL,List.set_cons_zero,List.set_cons_succ,rho,Nat.reduceAdd,Nat.add_zero,Nat.lt_irrefl,Nat.reduceLT,Nat.reduceSub,Nat.sub_self];exact b.h):A:=e b
theorem zEl {A B:Prop} (b:Ho B) (e:Ho B→A:=by
  intro b;refine ⟨_,_,rfl,by first | exact .inr (qlf.1 rfl) | (refine .inl ⟨rfl,?_⟩;simp [Blk.kindIs,b5d,c0h];done) | (refine .inr ?_;simp [V.coldIn,V.cold,idx];done) | (refine .inr ?_;simp [V.coldIn,V.cold,idx,Nat.beq_refl,‹Fc _›.h];done),?_⟩;simp only [zY,zW,b0k,Nat.reduceEqDiff,reduceIte,c4p,d82,f3d,f1i,f3t,V.ren,V.renL,List.set_cons_zero,List.set_cons_succ,rho,Nat.reduceAdd,Nat.add_zero,Nat.lt_irrefl,Nat.reduceLT,Nat.reduceSub,Nat.sub_self];exact b.h):A:=e b
theorem zEt {A B:Prop} (b:Ho B) (e:Ho B→A:=by
  intro b;refine ⟨_,_,_,rfl,by first | exact .inr (qlf.1 rfl) | (refine .inl ⟨rfl,?_⟩;simp [Blk.kindIs,b5d,c0h];done) | (refine .inr ?_;simp [V.coldIn,V.cold,idx];done) | (refine .inr ?_;simp [V.coldIn,V.cold,idx,Nat.beq_refl,‹Fc _›.h];done),?_⟩;simp only [zY,zW,b0k,Nat.reduceEqDiff,reduceIte,c4p,d82,f3d,f1i,f3t,V.ren,V.renL,List.set_cons_zero,List.set_cons_succ,rho,Nat.reduceAdd,Nat.add_zero,Nat.lt_irrefl,Nat.reduceLT,Nat.reduceSub,Nat.sub_self];exact b.h):A:=e b
theorem zgc {C A B:Prop} (con:C) (b:Ho B) (e:C→Ho B→A:=by
  intro con b;first
  | refine b5p rfl rfl rfl ?_ ?_
    · first | rfl | (simp only [zV,b04,Nat.reduceEqDiff,reduceIte];done)
    simp only [zW,b0k,Nat.reduceEqDiff,reduceIte]
  | skip
    refine b6g ?_;intro K k;simp only [zE,zG,b0w,b0s,b0k,Nat.reduceEqDiff,reduceIte,Nat.reduceLT,implies_true,forall_const,reduceCtorEq,V.ofValue,V.ofScalar,V.un,V.gd,b04,‹Tys _›.h,‹Fc _›.h];simp only [zM,zW,b07,b4i,b43,b0k,Nat.reduceEqDiff,reduceIte,V.ofValue,V.ofScalar,V.un,V.gd,and_true,true_and,implies_true,and_self,decide_eq_true_eq];first | refine Exists.imp (fun r h=>h) (c5v con (by first | rfl | (simp only [b1w,b3e,b1q,b1g,b2p,Option.map_some,idx,b1n,List.getElem?_cons_zero,List.getElem?_cons_succ,Option.bind_some,Blk.row,b05,b1s,b11,b10,b13,b14,cond_true,List.map_take];done) | (simp [b1w,b3e,b1q,b1g,b2p,idx,b1n,Blk.row,b05,b1s,b11,b10,b13,b14,Nat.beq_refl];done)) rfl rfl ?_) | refine Exists.imp (fun r h=>h) (c56 (fun hg=>con) (by first | rfl | (simp only [b1w,b3e,b1q,b1g,b2p,Option.map_some,idx,b1n,List.getElem?_cons_zero,List.getElem?_cons_succ,Option.bind_some,Blk.row,b05,b1s,b11,b10,b13,b14,cond_true,List.map_take];done) | (simp [b1w,b3e,b1q,b1g,b2p,idx,b1n,Blk.row,b05,b1s,b11,b10,b13,b14,Nat.beq_refl];done)) rfl rfl ?_) | refine Exists.imp (fun r h=>h) (c8i (by first | (intros;trivial) | (intros;simp_all;done)) (fun hg=>con) (by first | rfl | (simp only [b1w,b3e,b1q,b1g,b2p,Option.map_some,idx,b1n,List.getElem?_cons_zero,List.getElem?_cons_succ,Option.bind_some,Blk.row,b05,b1s,b11,b10,b13,b14,cond_true,List.map_take];done) | (simp [b1w,b3e,b1q,b1g,b2p,idx,b1n,Blk.row,b05,b1s,b11,b10,b13,b14,Nat.beq_refl];done)) rfl rfl ?_)
    refine k _ ?_;clear k K
  exact b.h):A:=e con b
theorem b34 {A B:Prop} (b:Ho B) (e:Ho B→A:=by
  intro b;intro K k;simp only [zE,b0w,b0s,b0k,Nat.reduceEqDiff,reduceIte,Nat.reduceLT,implies_true,forall_const,reduceCtorEq,V.ofValue,V.ofScalar,V.un,V.gd,b07,aop,b0v,Value.oneCell',List.all_cons,List.all_nil,Bool.and_self,‹Tys _›.h,‹Fc _›.h];repeat (refine b4b ?_)
  refine k _ ?_;clear k K;exact b.h):A:=e b
theorem b3l {A B:Prop} (b:Ho B) (e:Ho B→A:=by
  intro b;intro K k;simp only [zE,zL,zN,b0w,b0s,b0k,Nat.reduceEqDiff,reduceIte,Nat.reduceLT,implies_true,forall_const,reduceCtorEq,V.ofValue,V.ofScalar,V.un,V.gd,b07,aop,b3z,Nat.reduceAdd,Nat.reduceLeDiff,Nat.reduceMul,b0v,Value.oneCell',List.all_cons,List.all_nil,Bool.and_self,‹Tys _›.h,‹Fc _›.h];repeat (refine b4b ?_)
  refine k _ ?_;clear k K;exact b.h):A:=e b
theorem b6e {A B:Prop} (b:Ho B) (e:Ho B→A:=by
  intro b;intro K k;simp only [zE,zL,zN,b0w,b0s,b0k,Nat.reduceEqDiff,reduceIte,Nat.reduceLT,implies_true,forall_const,reduceCtorEq,V.ofValue,V.ofScalar,V.un,V.gd,b07,aop,b8v,Nat.reduceAdd,Nat.reduceLeDiff,Nat.reduceMul,b0v,Value.oneCell',List.all_cons,List.all_nil,Bool.and_self,‹Tys _›.h,‹Fc _›.h];repeat (refine b4b ?_)
  refine k _ ?_;clear k K;exact b.h):A:=e b
theorem c4u {A B:Prop} (b:Ho B) (e:Ho B→A:=by
  intro b;intro K k;simp only [zE,zL,zO,zN,b0w,b0s,b0k,Nat.reduceEqDiff,reduceIte,Nat.reduceLT,implies_true,forall_const,reduceCtorEq,V.ofValue,V.ofScalar,V.un,V.gd,b07,aop,c5j,if_true,Nat.zero_mul,Nat.one_mul,Nat.mul_one,V.isVal,V.cells,List.mem_cons,List.not_mem_nil,or_false,forall_eq_or_imp,forall_eq,Nat.reduceAdd,Nat.reduceLeDiff,Nat.reduceMul,b0v,Value.oneCell',List.all_cons,List.all_nil,‹Tys _›.h,‹Fc _›.h];repeat (refine b4b ?_)
  refine k _ ?_;clear k K;exact b.h):A:=e b
theorem c2l {A B:Prop} (b:Ho B) (e:Ho B→A:=by
  intro b;intro K k;simp only [zE,b0w,b0s,b0k,Nat.reduceEqDiff,reduceIte,Nat.reduceLT,implies_true,forall_const,reduceCtorEq,V.ofValue,V.ofScalar,V.un,V.gd,b07,aop,d2p,c19,or_true,true_or,or_false,false_or,EK.fitsL,EK.fits,b4r,b7s,b0v,Value.oneCell',List.all_cons,List.all_nil,Bool.and_self,‹Tys _›.h,‹Fc _›.h];try simp (disch:=omega) only [c4c]
  repeat (refine b4b ?_)
  refine k _ ?_;clear k K;exact b.h):A:=e b
theorem c0e {A B:Prop} (b:Ho B) (e:Ho B→A:=by
  intro b;intro K k;simp only [zE,zS,zJ,zL,zO,zN,b0w,b0s,b0k,Nat.reduceEqDiff,reduceIte,Nat.reduceLT,implies_true,forall_const,reduceCtorEq,V.ofValue,V.ofScalar,V.un,V.gd,b07,aop,b8n,b2c,V.isVal,V.cells,b4o,b2t,V.noSl,V.noRef,gt_iff_lt,Nat.reduceAdd,Nat.reduceLeDiff,Nat.reduceMul,c0d,b1y,b2z,b1n,Blk.row,b4l,Nat.reduceBEq,c9z,b0v,Value.oneCell',‹Tys _›.h,‹Fc _›.h];repeat (refine b4b ?_)
  refine k _ ?_;clear k K;exact b.h):A:=e b
theorem b4j {A B:Prop} (b:Ho B) (e:Ho B→A:=by
  intro b;intro K k;simp only [zE,zS,zO,zN,b0w,b0s,b0k,Nat.reduceEqDiff,reduceIte,Nat.reduceLT,implies_true,forall_const,reduceCtorEq,V.ofValue,V.ofScalar,V.un,V.gd,b07,aop,Nat.reduceAdd,Value.oneCell',V.isVal,V.cells,b4o,b2t,V.noSl,V.noRef,List.all_cons,List.all_nil,List.map_cons,List.map_nil,gt_iff_lt,Nat.reduceLeDiff,Nat.reduceMul,b0v,‹Tys _›.h,‹Fc _›.h];repeat (refine b4b ?_)
  refine k _ ?_;clear k K;exact b.h):A:=e b
theorem b01 {A B:Prop} (b:Ho B) (e:Ho B→A:=by
  intro b;intro K k;simp only [zE,zO,zN,b0w,b0s,b0k,Nat.reduceEqDiff,reduceIte,Nat.reduceLT,implies_true,forall_const,reduceCtorEq,V.ofValue,V.ofScalar,V.un,V.gd,b07,aop,b8x,f9b,f84,f9a,f83,f9e,f81,f89,f87,f85,f9d,f4v,f46,f5s,List.map_cons,List.map_nil,List.all_cons,List.all_nil,V.isVal,V.cells,b4g,b0v,b2t,V.noRef,V.noSl,List.mem_cons,List.not_mem_nil,or_false,forall_eq_or_imp,forall_eq,if_true,Option.isSome_some,List.length_cons,List.length_nil,Nat.reduceAdd,Nat.reduceLeDiff,Nat.reduceMul,Value.oneCell',‹Tys _›.h,‹Fc _›.h];repeat (refine b4b ?_)
  refine k _ ?_;clear k K;exact b.h):A:=e b
theorem b16 {A B:Prop} (b:Ho B) (e:Ho B→A:=by
  intro b;intro K k;simp only [zE,zL,zO,zN,b0w,b0s,b0k,Nat.reduceEqDiff,reduceIte,Nat.reduceLT,implies_true,forall_const,reduceCtorEq,V.ofValue,V.ofScalar,V.un,V.gd,b07,aop,c44,beq_self_eq_true,List.nodup_cons,List.mem_singleton,forall_eq',List.size_toArray,List.getD_eq_getElem?_getD,Array.getD_eq_getD_getElem?,Option.getD_some,b7m,c7m,c9d,b4e,c0d,b1y,b2z,b1n,Blk.row,b4l,V.isSub,V.noSl,Value.cells,Option.toList,List.forall_mem_map,List.length_map,List.all_cons,List.all_nil,List.isEmpty_nil,List.isEmpty_cons,List.not_mem_nil,List.nodup_nil,d1z,d2e,d1i,d7w,d69,b92,c12,List.mem_cons,or_false,forall_eq_or_imp,forall_eq,List.set_cons_zero,List.set_cons_succ,List.length_append,Go.Vm.V.cells,Nat.reduceAdd,Nat.reduceLeDiff,Nat.reduceMul,b0v,Value.oneCell',‹Tys _›.h,‹Fc _›.h];repeat (refine b4b ?_)
  refine k _ ?_;clear k K;exact b.h):A:=e b
theorem b33 {A B:Prop} (b:Ho B) (e:Ho B→A:=by
  intro b;intro K k;simp only [zE,zL,zN,b0w,b0s,b0k,Nat.reduceEqDiff,reduceIte,Nat.reduceLT,implies_true,forall_const,reduceCtorEq,V.ofValue,V.ofScalar,V.un,V.gd,b07,aop,List.set_cons_zero,List.set_cons_succ,b9p,forall_eq',c0w,c0g,Option.map_none,Option.isNone_none,b1n,Blk.row,TypeDesc.slice.injEq,List.forall_mem_map,List.length_map,Go.Vm.V.cells,Int.toNat_natCast,Int.reduceToNat,←List.map_take,←List.map_drop,List.take_length,Nat.reduceAdd,Nat.reduceLeDiff,Nat.reduceMul,b0v,Value.oneCell',List.all_cons,List.all_nil,Bool.and_self,‹Tys _›.h,‹Fc _›.h];repeat (refine b4b ?_)
  refine k _ ?_;clear k K;exact b.h):A:=e b
theorem b3h {A B:Prop} (b:Ho B) (e:Ho B→A:=by
  intro b;intro K k;simp only [zE,zL,zO,zN,b0w,b0s,b0k,Nat.reduceEqDiff,reduceIte,Nat.reduceLT,implies_true,forall_const,reduceCtorEq,V.ofValue,V.ofScalar,V.un,V.gd,b07,aop,b7q,b1n,Blk.row,b7r,Go.Vm.part,V.cells,V.noSl,V.noRef,Nat.reduceAdd,Nat.reduceLeDiff,Nat.reduceMul,b0v,Value.oneCell',List.all_cons,List.all_nil,‹Tys _›.h,‹Fc _›.h];repeat (refine b4b ?_)
  refine k _ ?_;clear k K;exact b.h):A:=e b
theorem c2v {A B:Prop} (b:Ho B) (e:Ho B→A:=by
  intro b;intro K k;simp only [zE,zL,zN,b0w,b0s,b0k,Nat.reduceEqDiff,reduceIte,Nat.reduceLT,implies_true,forall_const,reduceCtorEq,V.ofValue,V.ofScalar,V.un,V.gd,b07,aop,List.mem_cons,List.not_mem_nil,or_false,forall_eq_or_imp,forall_eq,b3q,b1n,Blk.row,Go.Vm.V.cells,List.forall_mem_map,List.length_map,Int.toNat_natCast,Int.reduceToNat,TypeDesc.slice.injEq,Nat.reduceAdd,Nat.reduceLeDiff,Nat.reduceMul,b0v,Value.oneCell',List.all_cons,List.all_nil,Bool.and_self,‹Tys _›.h,‹Fc _›.h];repeat (refine b4b ?_)
  refine k _ ?_;clear k K;exact b.h):A:=e b
theorem f9f {A B:Prop} (b:Ho B) (e:Ho B→A:=by
  intro b;intro K k;simp only [zE,zL,zN,b0w,b0s,b0k,Nat.reduceEqDiff,reduceIte,Nat.reduceLT,implies_true,forall_const,reduceCtorEq,V.ofValue,V.ofScalar,V.un,V.gd,b07,aop,List.length_map,f0r,c0x,b1n,Blk.row,List.size_toArray,List.getD_eq_getElem?_getD,Array.getD_eq_getD_getElem?,Option.getD_some,Nat.reduceAdd,Nat.reduceLeDiff,Nat.reduceMul,b0v,Value.oneCell',List.all_cons,List.all_nil,Bool.and_self,‹Tys _›.h,‹Fc _›.h];repeat (refine b4b ?_)
  refine k _ ?_;clear k K;exact b.h):A:=e b
theorem zsc {C A B:Prop} (con:C) (b:Ho B) (e:C→Ho B→A:=by
  intro con b K k;simp only [zE,zM,b0w,b0s,b0k,Nat.reduceEqDiff,reduceIte,Nat.reduceLT,implies_true,forall_const,reduceCtorEq,V.ofValue,V.ofScalar,V.un,V.gd,b07,b4i,b43,‹Tys _›.h,‹Fc _›.h];repeat (refine d5z ?_)
  refine b7c con (by first | rfl | (simp only [b1w,b3e,b1q,b1g,b2p,Option.map_some,idx,b1n,List.getElem?_cons_zero,List.getElem?_cons_succ,Option.bind_some,Blk.row,b05,b1s,b11,b10,b13,b14,cond_true,List.map_take];done) | (simp [b1w,b3e,b1q,b1g,b2p,idx,b1n,Blk.row,b05,b1s,b11,b10,b13,b14,Nat.beq_refl];done)) (by first | exact .inl ⟨rfl,by simp [Blk.kindIs,b5d,c0h]⟩ | exact .inr (by simp [V.cold])) ?_;refine k _ ?_;clear k K;simp only [zY,zW,b0k,Nat.reduceEqDiff,reduceIte,V.ren,V.renL,rho,Nat.reduceAdd];exact b.h):A:=e con b
theorem b03 {O:List Blk} {t:St} (h:Grow O t.O):∀i,(O[i]?).isSome=true→t.row i=(O[i]?).bind Blk.row:=by
  intro i hi;unfold St.row;cases hb:O[i]? with
  | none=>rw [hb] at hi;cases hi
  | some b=>rw [h i b hb]
theorem b0t {P:Program} {L:b4u} {rg:Array Oper} {K:St→Prop} {fuel:Nat} {listed:Array Bool} {env:List (Nat×V)} {O:List Blk} {vw:Bool} {n m:Nat} {oi:Oper} {rest:List Oper} {v:V} (hK:∀s t,EqS s t→K s→K t) (kp:Bool) (i d:Nat)
    (b:b1r P L rg K fuel (listed.setIfInBounds i true) ⟨(d,v)::env,O,vw,n,m⟩) (hi:rg.toList.drop i=oi::rest:=by rfl) (hd:oi.dst=some d:=by rfl) (hf:Region.freeG L kp rg listed i=true:=by kernel_rfl) (hr:(Region.ready .any rg listed).contains i=true:=by kernel_rfl)
    (hp:b5s P L rg kp oi d v ⟨env,O,vw,n,m⟩:=by
      intro t hn gx ho K' k';dsimp only at hn;refine .inl ?_;simp (disch:=first | decide | rfl) only [gx,zE,b0w,b0s,Nat.reduceEqDiff,reduceIte,Nat.reduceLT,implies_true,forall_const,reduceCtorEq,V.ofValue,V.ofScalar,V.un,V.gd,b07,aop,b0v,Value.oneCell',List.all_cons,List.all_nil,Bool.and_self,‹Tys _›.h,‹Fc _›.h];repeat (refine b4b ?_)
      exact k'):b1r P L rg K (fuel+1) listed ⟨env,O,vw,n,m⟩:=b1u hK kp i d hi hd hf hr ⟨v,hp,b⟩
theorem b0z {P:Program} {L:b4u} {rg:Array Oper} {K:St→Prop} {fuel:Nat} {listed:Array Bool} {env:List (Nat×V)} {O:List Blk} {vw:Bool} {n m:Nat} {oi:Oper} {rest:List Oper} {v:V} (hK:∀s t,EqS s t→K s→K t) (kp:Bool) (i d:Nat)
    (b:b1r P L rg K fuel (listed.setIfInBounds i true) ⟨(d,v)::env,O,vw,n,m⟩) (hi:rg.toList.drop i=oi::rest:=by rfl) (hd:oi.dst=some d:=by rfl) (hf:Region.freeG L kp rg listed i=true:=by kernel_rfl) (hr:(Region.ready .any rg listed).contains i=true:=by kernel_rfl)
    (hp : b5s P L rg kp oi d v ⟨env,O,vw,n,m⟩:=by
      intro t hn gx ho K' k';dsimp only at hn;first
      | refine .inr ⟨?_,_,_,false,rfl,?_,nofun,fun _=>⟨.any,k'⟩⟩
        · simp only [hn,b5b,Nat.reduceLT]
        · first | rfl | (simp (disch:=decide) only [gx,zV,b04,Nat.reduceEqDiff,reduceIte];done)
      | skip
        refine .inl ?_;simp (disch:=first | decide | rfl) only [gx,zE,zG,b0w,b0s,Nat.reduceEqDiff,reduceIte,Nat.reduceLT,implies_true,forall_const,reduceCtorEq,V.ofValue,V.ofScalar,V.un,V.gd,b04,V.wrap,b07,aop,b0v,Value.oneCell',List.all_cons,List.all_nil,Bool.and_self,‹Tys _›.h,‹Fc _›.h];repeat (refine b4b ?_)
        exact k'):b1r P L rg K (fuel+1) listed ⟨env,O,vw,n,m⟩:=b1u hK kp i d hi hd hf hr ⟨v,hp,b⟩
theorem b1p {P:Program} {L:b4u} {rg:Array Oper} {K:St→Prop} {fuel:Nat} {listed:Array Bool} {env:List (Nat×V)} {O:List Blk} {vw:Bool} {n m:Nat} {oi:Oper} {rest:List Oper} {v:V} (hK:∀s t,EqS s t→K s→K t) (kp:Bool) (i d:Nat)
    (b:b1r P L rg K fuel (listed.setIfInBounds i true) ⟨(d,v)::env,O,vw,n,m⟩) (hi:rg.toList.drop i=oi::rest:=by rfl) (hd:oi.dst=some d:=by rfl) (hf:Region.freeG L kp rg listed i=true:=by kernel_rfl) (hr:(Region.ready .any rg listed).contains i=true:=by kernel_rfl)
    (hp:b5s P L rg kp oi d v ⟨env,O,vw,n,m⟩:=by
      intro t hn gx ho K' k';dsimp only at hn;refine .inl ?_;simp (disch:=first | decide | rfl) only [gx,zE,zP,b0w,b0s,Nat.reduceEqDiff,reduceIte,Nat.reduceLT,implies_true,forall_const,reduceCtorEq,V.ofValue,V.ofScalar,V.un,V.gd,b07,aop,d4g,b0v,Value.oneCell',List.all_cons,List.all_nil,Bool.and_self,‹Tys _›.h,‹Fc _›.h];repeat (refine b4b ?_)
      exact k'):b1r P L rg K (fuel+1) listed ⟨env,O,vw,n,m⟩:=b1u hK kp i d hi hd hf hr ⟨v,hp,b⟩
theorem b4m {P:Program} {L:b4u} {rg:Array Oper} {K:St→Prop} {fuel:Nat} {listed:Array Bool} {env:List (Nat×V)} {O:List Blk} {vw:Bool} {n m:Nat} {oi:Oper} {rest:List Oper} {v:V} (hK:∀s t,EqS s t→K s→K t) (kp:Bool) (i d:Nat)
    (b:b1r P L rg K fuel (listed.setIfInBounds i true) ⟨(d,v)::env,O,vw,n,m⟩) (hi:rg.toList.drop i=oi::rest:=by rfl) (hd:oi.dst=some d:=by rfl) (hf:Region.freeG L kp rg listed i=true:=by kernel_rfl) (hr:(Region.ready .any rg listed).contains i=true:=by kernel_rfl)
    (hp : b5s P L rg kp oi d v ⟨env,O,vw,n,m⟩:=by
      intro t hn gx ho K' k';dsimp only at hn;first
      | refine .inr ⟨?_,_,_,false,rfl,?_,nofun,fun _=>⟨.any,k'⟩⟩
        · simp only [hn,b5b,Nat.reduceLT]
        · first | rfl | (simp (disch:=decide) only [gx,zV,b04,Nat.reduceEqDiff,reduceIte];done)
      | skip
        refine .inl ?_;simp (disch:=first | decide | rfl) only [gx,zE,zP,zG,b0w,b0s,Nat.reduceEqDiff,reduceIte,Nat.reduceLT,implies_true,forall_const,reduceCtorEq,V.ofValue,V.ofScalar,V.un,V.gd,b04,V.wrap,b07,aop,d4g,b0v,Value.oneCell',List.all_cons,List.all_nil,Bool.and_self,‹Tys _›.h,‹Fc _›.h];repeat (refine b4b ?_)
        exact k'):b1r P L rg K (fuel+1) listed ⟨env,O,vw,n,m⟩:=b1u hK kp i d hi hd hf hr ⟨v,hp,b⟩
theorem b1d {P:Program} {L:b4u} {rg:Array Oper} {K:St→Prop} {fuel:Nat} {listed:Array Bool} {env:List (Nat×V)} {O:List Blk} {vw:Bool} {n m:Nat} {oi:Oper} {rest:List Oper} {v:V} (hK:∀s t,EqS s t→K s→K t) (kp:Bool) (i d:Nat)
    (b:b1r P L rg K fuel (listed.setIfInBounds i true) ⟨(d,v)::env,O,vw,n,m⟩) (hi:rg.toList.drop i=oi::rest:=by rfl) (hd:oi.dst=some d:=by rfl) (hf:Region.freeG L kp rg listed i=true:=by kernel_rfl) (hr:(Region.ready .any rg listed).contains i=true:=by kernel_rfl)
    (hp:b5s P L rg kp oi d v ⟨env,O,vw,n,m⟩:=by
      intro t hn gx ho K' k';dsimp only at hn;first | have r0:=b03 (ho rfl) 0 rfl | have r0:=True.intro
      first | have r1:=b03 (ho rfl) 1 rfl | have r1:=True.intro
      first | have r2:=b03 (ho rfl) 2 rfl | have r2:=True.intro
      first | have r3:=b03 (ho rfl) 3 rfl | have r3:=True.intro
      first | have r4:=b03 (ho rfl) 4 rfl | have r4:=True.intro
      first | have r5:=b03 (ho rfl) 5 rfl | have r5:=True.intro
      refine .inl ?_;simp (disch:=first | decide | rfl) only [gx,r0,r1,r2,r3,r4,r5,zE,zL,zO,zN,b0w,b0s,Nat.reduceEqDiff,reduceIte,Nat.reduceLT,implies_true,forall_const,reduceCtorEq,V.ofValue,V.ofScalar,V.un,V.gd,b07,aop,b7q,b1n,Blk.row,b7r,Go.Vm.part,V.cells,V.noSl,V.noRef,Nat.reduceAdd,Nat.reduceLeDiff,Nat.reduceMul,b0v,Value.oneCell',List.all_cons,List.all_nil,‹Tys _›.h,‹Fc _›.h];repeat (refine b4b ?_)
      exact k'):b1r P L rg K (fuel+1) listed ⟨env,O,vw,n,m⟩:=b1u hK kp i d hi hd hf hr ⟨v,hp,b⟩
theorem b1i {P:Program} {L:b4u} {rg:Array Oper} {K:St→Prop} {fuel:Nat} {listed:Array Bool} {env:List (Nat×V)} {O:List Blk} {vw:Bool} {n m:Nat} {oi:Oper} {rest:List Oper} {v:V} (hK:∀s t,EqS s t→K s→K t) (kp:Bool) (i d:Nat)
    (b:b1r P L rg K fuel (listed.setIfInBounds i true) ⟨(d,v)::env,O,vw,n,m⟩) (hi:rg.toList.drop i=oi::rest:=by rfl) (hd:oi.dst=some d:=by rfl) (hf:Region.freeG L kp rg listed i=true:=by kernel_rfl) (hr:(Region.ready .any rg listed).contains i=true:=by kernel_rfl)
    (hp:b5s P L rg kp oi d v ⟨env,O,vw,n,m⟩:=by
      intro t hn gx ho K' k';dsimp only at hn;first | have r0:=b03 (ho rfl) 0 rfl | have r0:=True.intro
      first | have r1:=b03 (ho rfl) 1 rfl | have r1:=True.intro
      first | have r2:=b03 (ho rfl) 2 rfl | have r2:=True.intro
      first | have r3:=b03 (ho rfl) 3 rfl | have r3:=True.intro
      first | have r4:=b03 (ho rfl) 4 rfl | have r4:=True.intro
      first | have r5:=b03 (ho rfl) 5 rfl | have r5:=True.intro
      first | have r6:=b03 (ho rfl) 6 rfl | have r6:=True.intro
      first | have r7:=b03 (ho rfl) 7 rfl | have r7:=True.intro
      first | have r8:=b03 (ho rfl) 8 rfl | have r8:=True.intro
      first | have r9:=b03 (ho rfl) 9 rfl | have r9:=True.intro
      first | have r10:=b03 (ho rfl) 10 rfl | have r10:=True.intro
      first | have r11:=b03 (ho rfl) 11 rfl | have r11:=True.intro
      first | have r12:=b03 (ho rfl) 12 rfl | have r12:=True.intro
      first | have r13:=b03 (ho rfl) 13 rfl | have r13:=True.intro
      first | have r14:=b03 (ho rfl) 14 rfl | have r14:=True.intro
      first | have r15:=b03 (ho rfl) 15 rfl | have r15:=True.intro
      first | have r16:=b03 (ho rfl) 16 rfl | have r16:=True.intro
      first | have r17:=b03 (ho rfl) 17 rfl | have r17:=True.intro
      first | have r18:=b03 (ho rfl) 18 rfl | have r18:=True.intro
      first | have r19:=b03 (ho rfl) 19 rfl | have r19:=True.intro
      first | have r20:=b03 (ho rfl) 20 rfl | have r20:=True.intro
      first | have r21:=b03 (ho rfl) 21 rfl | have r21:=True.intro
      first | have r22:=b03 (ho rfl) 22 rfl | have r22:=True.intro
      first | have r23:=b03 (ho rfl) 23 rfl | have r23:=True.intro
      refine .inl ?_;simp (disch:=first | decide | rfl) only [gx,r0,r1,r2,r3,r4,r5,zE,zL,zO,zN,r6,r7,r8,r9,r10,r11,r12,r13,r14,r15,r16,r17,r18,r19,r20,r21,r22,r23,b0w,b0s,Nat.reduceEqDiff,reduceIte,Nat.reduceLT,implies_true,forall_const,reduceCtorEq,V.ofValue,V.ofScalar,V.un,V.gd,b07,aop,b7q,b1n,Blk.row,b7r,Go.Vm.part,V.cells,V.noSl,V.noRef,Nat.reduceAdd,Nat.reduceLeDiff,Nat.reduceMul,b0v,Value.oneCell',List.all_cons,List.all_nil,‹Tys _›.h,‹Fc _›.h];repeat (refine b4b ?_)
      exact k'):b1r P L rg K (fuel+1) listed ⟨env,O,vw,n,m⟩:=b1u hK kp i d hi hd hf hr ⟨v,hp,b⟩
theorem b0r {P:Program} {L:b4u} {rg:Array Oper} {K:St→Prop} {fuel:Nat} {listed:Array Bool} {env:List (Nat×V)} {O:List Blk} {vw:Bool} {n m:Nat} {oi:Oper} {rest:List Oper} {v:V} (hK:∀s t,EqS s t→K s→K t) (kp:Bool) (i d:Nat)
    (b:b1r P L rg K fuel (listed.setIfInBounds i true) ⟨(d,v)::env,O,vw,n,m⟩) (hi:rg.toList.drop i=oi::rest:=by rfl) (hd:oi.dst=some d:=by rfl) (hf:Region.freeG L kp rg listed i=true:=by kernel_rfl) (hr:(Region.ready .any rg listed).contains i=true:=by kernel_rfl)
    (hp : b5s P L rg kp oi d v ⟨env,O,vw,n,m⟩:=by
      intro t hn gx ho K' k';dsimp only at hn;first | have r0:=b03 (ho rfl) 0 rfl | have r0:=True.intro
      first | have r1:=b03 (ho rfl) 1 rfl | have r1:=True.intro
      first | have r2:=b03 (ho rfl) 2 rfl | have r2:=True.intro
      first | have r3:=b03 (ho rfl) 3 rfl | have r3:=True.intro
      first | have r4:=b03 (ho rfl) 4 rfl | have r4:=True.intro
      first | have r5:=b03 (ho rfl) 5 rfl | have r5:=True.intro
      first
      | refine .inr ⟨?_,_,_,false,rfl,?_,nofun,fun _=>⟨.any,k'⟩⟩
        · simp only [hn,b5b,Nat.reduceLT]
        · first | rfl | (simp (disch:=decide) only [gx,zV,b04,Nat.reduceEqDiff,reduceIte];done)
      | skip
        refine .inl ?_;simp (disch:=first | decide | rfl) only [gx,r0,r1,r2,r3,r4,r5,zE,zL,zO,zN,b0w,b0s,Nat.reduceEqDiff,reduceIte,Nat.reduceLT,implies_true,forall_const,reduceCtorEq,V.ofValue,V.ofScalar,V.un,V.gd,b04,V.wrap,b07,aop,b7q,b1n,Blk.row,b7r,Go.Vm.part,V.cells,V.noSl,V.noRef,Nat.reduceAdd,Nat.reduceLeDiff,Nat.reduceMul,b0v,Value.oneCell',List.all_cons,List.all_nil,‹Tys _›.h,‹Fc _›.h];repeat (refine b4b ?_)
        exact k'):b1r P L rg K (fuel+1) listed ⟨env,O,vw,n,m⟩:=b1u hK kp i d hi hd hf hr ⟨v,hp,b⟩
theorem b5a {P:Program} {L:b4u} {rg:Array Oper} {K:St→Prop} {fuel:Nat} {listed:Array Bool} {env:List (Nat×V)} {O:List Blk} {vw:Bool} {n m:Nat} {oi:Oper} {rest:List Oper} {v:V} (hK:∀s t,EqS s t→K s→K t) (kp:Bool) (i d:Nat)
    (b:b1r P L rg K fuel (listed.setIfInBounds i true) ⟨(d,v)::env,O,vw,n,m⟩) (hi:rg.toList.drop i=oi::rest:=by rfl) (hd:oi.dst=some d:=by rfl) (hf:Region.freeG L kp rg listed i=true:=by kernel_rfl) (hr:(Region.ready .any rg listed).contains i=true:=by kernel_rfl)
    (hp : b5s P L rg kp oi d v ⟨env,O,vw,n,m⟩:=by
      intro t hn gx ho K' k';dsimp only at hn;first | have r0:=b03 (ho rfl) 0 rfl | have r0:=True.intro
      first | have r1:=b03 (ho rfl) 1 rfl | have r1:=True.intro
      first | have r2:=b03 (ho rfl) 2 rfl | have r2:=True.intro
      first | have r3:=b03 (ho rfl) 3 rfl | have r3:=True.intro
      first | have r4:=b03 (ho rfl) 4 rfl | have r4:=True.intro
      first | have r5:=b03 (ho rfl) 5 rfl | have r5:=True.intro
      first | have r6:=b03 (ho rfl) 6 rfl | have r6:=True.intro
      first | have r7:=b03 (ho rfl) 7 rfl | have r7:=True.intro
      first | have r8:=b03 (ho rfl) 8 rfl | have r8:=True.intro
      first | have r9:=b03 (ho rfl) 9 rfl | have r9:=True.intro
      first | have r10:=b03 (ho rfl) 10 rfl | have r10:=True.intro
      first | have r11:=b03 (ho rfl) 11 rfl | have r11:=True.intro
      first | have r12:=b03 (ho rfl) 12 rfl | have r12:=True.intro
      first | have r13:=b03 (ho rfl) 13 rfl | have r13:=True.intro
      first | have r14:=b03 (ho rfl) 14 rfl | have r14:=True.intro
      first | have r15:=b03 (ho rfl) 15 rfl | have r15:=True.intro
      first | have r16:=b03 (ho rfl) 16 rfl | have r16:=True.intro
      first | have r17:=b03 (ho rfl) 17 rfl | have r17:=True.intro
      first | have r18:=b03 (ho rfl) 18 rfl | have r18:=True.intro
      first | have r19:=b03 (ho rfl) 19 rfl | have r19:=True.intro
      first | have r20:=b03 (ho rfl) 20 rfl | have r20:=True.intro
      first | have r21:=b03 (ho rfl) 21 rfl | have r21:=True.intro
      first | have r22:=b03 (ho rfl) 22 rfl | have r22:=True.intro
      first | have r23:=b03 (ho rfl) 23 rfl | have r23:=True.intro
      first
      | refine .inr ⟨?_,_,_,false,rfl,?_,nofun,fun _=>⟨.any,k'⟩⟩
        · simp only [hn,b5b,Nat.reduceLT]
        · first | rfl | (simp (disch:=decide) only [gx,zV,b04,Nat.reduceEqDiff,reduceIte];done)
      | skip
        refine .inl ?_;simp (disch:=first | decide | rfl) only [gx,r0,r1,r2,r3,r4,r5,zE,zL,zO,zN,r6,r7,r8,r9,r10,r11,r12,r13,r14,r15,r16,r17,r18,r19,r20,r21,r22,r23,b0w,b0s,Nat.reduceEqDiff,reduceIte,Nat.reduceLT,implies_true,forall_const,reduceCtorEq,V.ofValue,V.ofScalar,V.un,V.gd,b04,V.wrap,b07,aop,b7q,b1n,Blk.row,b7r,Go.Vm.part,V.cells,V.noSl,V.noRef,Nat.reduceAdd,Nat.reduceLeDiff,Nat.reduceMul,b0v,Value.oneCell',List.all_cons,List.all_nil,‹Tys _›.h,‹Fc _›.h];repeat (refine b4b ?_)
        exact k'):b1r P L rg K (fuel+1) listed ⟨env,O,vw,n,m⟩:=b1u hK kp i d hi hd hf hr ⟨v,hp,b⟩
theorem b3f {P:Program} {L:b4u} {rg:Array Oper} {K:St→Prop} {fuel:Nat} {listed:Array Bool} {env:List (Nat×V)} {O:List Blk} {vw:Bool} {n m:Nat} {oi:Oper} {rest:List Oper} {v:V} (hK:∀s t,EqS s t→K s→K t) (kp:Bool) (i d:Nat)
    (b:b1r P L rg K fuel (listed.setIfInBounds i true) ⟨(d,v)::env,O,vw,n,m⟩) (hi:rg.toList.drop i=oi::rest:=by rfl) (hd:oi.dst=some d:=by rfl) (hf:Region.freeG L kp rg listed i=true:=by kernel_rfl) (hr:(Region.ready .any rg listed).contains i=true:=by kernel_rfl)
    (hp:b5s P L rg kp oi d v ⟨env,O,vw,n,m⟩:=by
      intro t hn gx ho K' k';dsimp only at hn;refine .inl ?_;simp (disch:=first | decide | rfl) only [gx,zE,b0w,b0s,Nat.reduceEqDiff,reduceIte,Nat.reduceLT,implies_true,forall_const,reduceCtorEq,V.ofValue,V.ofScalar,V.un,V.gd,b07,aop,b0v,Value.oneCell',List.all_cons,List.all_nil,Bool.and_self,‹Tys _›.h,‹Fc _›.h];repeat (refine b4b ?_)
      exact k'):b1r P L rg K (fuel+1) listed ⟨env,O,vw,n,m⟩:=b1u hK kp i d hi hd hf hr ⟨v,hp,b⟩
theorem b6y {P:Program} {L:b4u} {rg:Array Oper} {K:St→Prop} {fuel:Nat} {listed:Array Bool} {env:List (Nat×V)} {O:List Blk} {vw:Bool} {n m:Nat} {oi:Oper} {rest:List Oper} {v:V} (hK:∀s t,EqS s t→K s→K t) (kp:Bool) (i d:Nat)
    (b:b1r P L rg K fuel (listed.setIfInBounds i true) ⟨(d,v)::env,O,vw,n,m⟩) (hi:rg.toList.drop i=oi::rest:=by rfl) (hd:oi.dst=some d:=by rfl) (hf:Region.freeG L kp rg listed i=true:=by kernel_rfl) (hr:(Region.ready .any rg listed).contains i=true:=by kernel_rfl)
    (hp : b5s P L rg kp oi d v ⟨env,O,vw,n,m⟩:=by
      intro t hn gx ho K' k';dsimp only at hn;first
      | refine .inr ⟨?_,_,_,false,rfl,?_,nofun,fun _=>⟨.any,k'⟩⟩
        · simp only [hn,b5b,Nat.reduceLT]
        · first | rfl | (simp (disch:=decide) only [gx,zV,b04,Nat.reduceEqDiff,reduceIte];done)
      | skip
        refine .inl ?_;simp (disch:=first | decide | rfl) only [gx,zE,zG,b0w,b0s,Nat.reduceEqDiff,reduceIte,Nat.reduceLT,implies_true,forall_const,reduceCtorEq,V.ofValue,V.ofScalar,V.un,V.gd,b04,V.wrap,b07,aop,b0v,Value.oneCell',List.all_cons,List.all_nil,Bool.and_self,‹Tys _›.h,‹Fc _›.h];repeat (refine b4b ?_)
        exact k'):b1r P L rg K (fuel+1) listed ⟨env,O,vw,n,m⟩:=b1u hK kp i d hi hd hf hr ⟨v,hp,b⟩
theorem b19 {P:Program} {L:b4u} {rg:Array Oper} {K:St→Prop} {fuel:Nat} {listed:Array Bool} {env:List (Nat×V)} {O:List Blk} {vw:Bool} {n m:Nat} {oi:Oper} {rest:List Oper} {v:V} (hK:∀s t,EqS s t→K s→K t) (kp:Bool) (i d:Nat)
    (b:b1r P L rg K fuel (listed.setIfInBounds i true) ⟨(d,v)::env,O,vw,n,m⟩) (hi:rg.toList.drop i=oi::rest:=by rfl) (hd:oi.dst=some d:=by rfl) (hf:Region.freeG L kp rg listed i=true:=by kernel_rfl) (hr:(Region.ready .any rg listed).contains i=true:=by kernel_rfl)
    (hp:b5s P L rg kp oi d v ⟨env,O,vw,n,m⟩:=by
      intro t hn gx ho K' k';dsimp only at hn;refine .inl ?_;simp (disch:=first | decide | rfl) only [gx,zE,b0w,b0s,Nat.reduceEqDiff,reduceIte,Nat.reduceLT,implies_true,forall_const,reduceCtorEq,V.ofValue,V.ofScalar,V.un,V.gd,b07,aop,d2p,c19,or_true,true_or,or_false,false_or,EK.fitsL,EK.fits,b4r,b7s,b0v,Value.oneCell',List.all_cons,List.all_nil,Bool.and_self,‹Tys _›.h,‹Fc _›.h];repeat (refine b4b ?_)
      exact k'):b1r P L rg K (fuel+1) listed ⟨env,O,vw,n,m⟩:=b1u hK kp i d hi hd hf hr ⟨v,hp,b⟩
theorem b21 {P:Program} {L:b4u} {rg:Array Oper} {K:St→Prop} {fuel:Nat} {listed:Array Bool} {env:List (Nat×V)} {O:List Blk} {vw:Bool} {n m:Nat} {oi:Oper} {rest:List Oper} {v:V} (hK:∀s t,EqS s t→K s→K t) (kp:Bool) (i d:Nat)
    (b:b1r P L rg K fuel (listed.setIfInBounds i true) ⟨(d,v)::env,O,vw,n,m⟩) (hi:rg.toList.drop i=oi::rest:=by rfl) (hd:oi.dst=some d:=by rfl) (hf:Region.freeG L kp rg listed i=true:=by kernel_rfl) (hr:(Region.ready .any rg listed).contains i=true:=by kernel_rfl)
    (hp:b5s P L rg kp oi d v ⟨env,O,vw,n,m⟩:=by
      intro t hn gx ho K' k';dsimp only at hn;refine .inl ?_;simp (disch:=first | decide | rfl) only [gx,zE,b0w,b0s,Nat.reduceEqDiff,reduceIte,Nat.reduceLT,implies_true,forall_const,reduceCtorEq,V.ofValue,V.ofScalar,V.un,V.gd,b07,aop,d2p,c19,or_true,true_or,or_false,false_or,EK.fitsL,EK.fits,b4r,b7s,b0v,Value.oneCell',List.all_cons,List.all_nil,Bool.and_self,‹Tys _›.h,‹Fc _›.h];try simp (disch:=omega) only [c4c]
      repeat (refine b4b ?_)
      exact k'):b1r P L rg K (fuel+1) listed ⟨env,O,vw,n,m⟩:=b1u hK kp i d hi hd hf hr ⟨v,hp,b⟩
theorem b0y {P:Program} {L:b4u} {rg:Array Oper} {K:St→Prop} {fuel:Nat} {listed:Array Bool} {env:List (Nat×V)} {O:List Blk} {vw:Bool} {n m:Nat} {oi:Oper} {rest:List Oper} {v:V} (hK:∀s t,EqS s t→K s→K t) (kp:Bool) (i d:Nat)
    (b:b1r P L rg K fuel (listed.setIfInBounds i true) ⟨(d,v)::env,O,vw,n,m⟩) (hi:rg.toList.drop i=oi::rest:=by rfl) (hd:oi.dst=some d:=by rfl) (hf:Region.freeG L kp rg listed i=true:=by kernel_rfl) (hr:(Region.ready .any rg listed).contains i=true:=by kernel_rfl)
    (hp : b5s P L rg kp oi d v ⟨env,O,vw,n,m⟩:=by
      intro t hn gx ho K' k';dsimp only at hn;first
      | refine .inr ⟨?_,_,_,false,rfl,?_,nofun,fun _=>⟨.any,k'⟩⟩
        · simp only [hn,b5b,Nat.reduceLT]
        · first | rfl | (simp (disch:=decide) only [gx,zV,b04,Nat.reduceEqDiff,reduceIte];done)
      | skip
        refine .inl ?_;simp (disch:=first | decide | rfl) only [gx,zE,zG,b0w,b0s,Nat.reduceEqDiff,reduceIte,Nat.reduceLT,implies_true,forall_const,reduceCtorEq,V.ofValue,V.ofScalar,V.un,V.gd,b04,V.wrap,b07,aop,d2p,c19,or_true,true_or,or_false,false_or,EK.fitsL,EK.fits,b4r,b7s,b0v,Value.oneCell',List.all_cons,List.all_nil,Bool.and_self,‹Tys _›.h,‹Fc _›.h];repeat (refine b4b ?_)
        exact k'):b1r P L rg K (fuel+1) listed ⟨env,O,vw,n,m⟩:=b1u hK kp i d hi hd hf hr ⟨v,hp,b⟩
theorem b2u {P:Program} {L:b4u} {rg:Array Oper} {K:St→Prop} {fuel:Nat} {listed:Array Bool} {env:List (Nat×V)} {O:List Blk} {vw:Bool} {n m:Nat} {oi:Oper} {rest:List Oper} {v:V} (hK:∀s t,EqS s t→K s→K t) (kp:Bool) (i d:Nat)
    (b:b1r P L rg K fuel (listed.setIfInBounds i true) ⟨(d,v)::env,O,vw,n,m⟩) (hi:rg.toList.drop i=oi::rest:=by rfl) (hd:oi.dst=some d:=by rfl) (hf:Region.freeG L kp rg listed i=true:=by kernel_rfl) (hr:(Region.ready .any rg listed).contains i=true:=by kernel_rfl)
    (hp : b5s P L rg kp oi d v ⟨env,O,vw,n,m⟩:=by
      intro t hn gx ho K' k';dsimp only at hn;first
      | refine .inr ⟨?_,_,_,false,rfl,?_,nofun,fun _=>⟨.any,k'⟩⟩
        · simp only [hn,b5b,Nat.reduceLT]
        · first | rfl | (simp (disch:=decide) only [gx,zV,b04,Nat.reduceEqDiff,reduceIte];done)
      | skip
        refine .inl ?_;simp (disch:=first | decide | rfl) only [gx,zE,zG,b0w,b0s,Nat.reduceEqDiff,reduceIte,Nat.reduceLT,implies_true,forall_const,reduceCtorEq,V.ofValue,V.ofScalar,V.un,V.gd,b04,V.wrap,b07,aop,d2p,c19,or_true,true_or,or_false,false_or,EK.fitsL,EK.fits,b4r,b7s,b0v,Value.oneCell',List.all_cons,List.all_nil,Bool.and_self,‹Tys _›.h,‹Fc _›.h];try simp (disch:=omega) only [c4c]
        repeat (refine b4b ?_)
        exact k'):b1r P L rg K (fuel+1) listed ⟨env,O,vw,n,m⟩:=b1u hK kp i d hi hd hf hr ⟨v,hp,b⟩
theorem b9r {P:Program} {L:b4u} {rg:Array Oper} {K:St→Prop} {fuel:Nat} {listed:Array Bool} {env:List (Nat×V)} {O:List Blk} {vw:Bool} {n m:Nat} {oi:Oper} {rest:List Oper} {v:V} (hK:∀s t,EqS s t→K s→K t) (kp:Bool) (i d:Nat)
    (b:b1r P L rg K fuel (listed.setIfInBounds i true) ⟨(d,v)::env,O,vw,n,m⟩) (hi:rg.toList.drop i=oi::rest:=by rfl) (hd:oi.dst=some d:=by rfl) (hf:Region.freeG L kp rg listed i=true:=by kernel_rfl) (hr:(Region.ready .any rg listed).contains i=true:=by kernel_rfl)
    (hp:b5s P L rg kp oi d v ⟨env,O,vw,n,m⟩:=by
      intro t hn gx ho K' k';dsimp only at hn;refine .inl ?_;simp (disch:=first | decide | rfl) only [gx,zE,b0w,b0s,Nat.reduceEqDiff,reduceIte,Nat.reduceLT,implies_true,forall_const,reduceCtorEq,V.ofValue,V.ofScalar,V.un,V.gd,b07,aop,aUn,b0v,Value.oneCell',List.all_cons,List.all_nil,Bool.and_self,‹Tys _›.h,‹Fc _›.h];repeat (refine b4b ?_)
      exact k'):b1r P L rg K (fuel+1) listed ⟨env,O,vw,n,m⟩:=b1u hK kp i d hi hd hf hr ⟨v,hp,b⟩
theorem c0b {P:Program} {L:b4u} {rg:Array Oper} {K:St→Prop} {fuel:Nat} {listed:Array Bool} {env:List (Nat×V)} {O:List Blk} {vw:Bool} {n m:Nat} {oi:Oper} {rest:List Oper} {v:V} (hK:∀s t,EqS s t→K s→K t) (kp:Bool) (i d:Nat)
    (b:b1r P L rg K fuel (listed.setIfInBounds i true) ⟨(d,v)::env,O,vw,n,m⟩) (hi:rg.toList.drop i=oi::rest:=by rfl) (hd:oi.dst=some d:=by rfl) (hf:Region.freeG L kp rg listed i=true:=by kernel_rfl) (hr:(Region.ready .any rg listed).contains i=true:=by kernel_rfl)
    (hp : b5s P L rg kp oi d v ⟨env,O,vw,n,m⟩:=by
      intro t hn gx ho K' k';dsimp only at hn;first
      | refine .inr ⟨?_,_,_,false,rfl,?_,nofun,fun _=>⟨.any,k'⟩⟩
        · simp only [hn,b5b,Nat.reduceLT]
        · first | rfl | (simp (disch:=decide) only [gx,zV,b04,Nat.reduceEqDiff,reduceIte];done)
      | skip
        refine .inl ?_;simp (disch:=first | decide | rfl) only [gx,zE,zG,b0w,b0s,Nat.reduceEqDiff,reduceIte,Nat.reduceLT,implies_true,forall_const,reduceCtorEq,V.ofValue,V.ofScalar,V.un,V.gd,b04,V.wrap,b07,aop,aUn,b0v,Value.oneCell',List.all_cons,List.all_nil,Bool.and_self,‹Tys _›.h,‹Fc _›.h];repeat (refine b4b ?_)
        exact k'):b1r P L rg K (fuel+1) listed ⟨env,O,vw,n,m⟩:=b1u hK kp i d hi hd hf hr ⟨v,hp,b⟩
theorem b0h {P:Program} {L:b4u} {rg:Array Oper} {K:St→Prop} {fuel:Nat} {listed:Array Bool} {env:List (Nat×V)} {O:List Blk} {vw:Bool} {n m:Nat} {oi:Oper} {rest:List Oper} {v:V} (hK:∀s t,EqS s t→K s→K t) (kp:Bool) (i d:Nat)
    (b:b1r P L rg K fuel (listed.setIfInBounds i true) ⟨(d,v)::env,O,vw,n,m⟩) (hi:rg.toList.drop i=oi::rest:=by rfl) (hd:oi.dst=some d:=by rfl) (hf:Region.freeG L kp rg listed i=true:=by kernel_rfl) (hr:(Region.ready .any rg listed).contains i=true:=by kernel_rfl)
    (hp:b5s P L rg kp oi d v ⟨env,O,vw,n,m⟩:=by
      intro t hn gx ho K' k';dsimp only at hn;refine .inl ?_;simp (disch:=first | decide | rfl) only [gx,zE,zL,zN,b0w,b0s,Nat.reduceEqDiff,reduceIte,Nat.reduceLT,implies_true,forall_const,reduceCtorEq,V.ofValue,V.ofScalar,V.un,V.gd,b07,aop,b3z,Nat.reduceAdd,Nat.reduceLeDiff,Nat.reduceMul,b0v,Value.oneCell',List.all_cons,List.all_nil,Bool.and_self,‹Tys _›.h,‹Fc _›.h];repeat (refine b4b ?_)
      exact k'):b1r P L rg K (fuel+1) listed ⟨env,O,vw,n,m⟩:=b1u hK kp i d hi hd hf hr ⟨v,hp,b⟩
theorem b0c {P:Program} {L:b4u} {rg:Array Oper} {K:St→Prop} {fuel:Nat} {listed:Array Bool} {env:List (Nat×V)} {O:List Blk} {vw:Bool} {n m:Nat} {oi:Oper} {rest:List Oper} {v:V} (hK:∀s t,EqS s t→K s→K t) (kp:Bool) (i d:Nat)
    (b:b1r P L rg K fuel (listed.setIfInBounds i true) ⟨(d,v)::env,O,vw,n,m⟩) (hi:rg.toList.drop i=oi::rest:=by rfl) (hd:oi.dst=some d:=by rfl) (hf:Region.freeG L kp rg listed i=true:=by kernel_rfl) (hr:(Region.ready .any rg listed).contains i=true:=by kernel_rfl)
    (hp : b5s P L rg kp oi d v ⟨env,O,vw,n,m⟩:=by
      intro t hn gx ho K' k';dsimp only at hn;first
      | refine .inr ⟨?_,_,_,false,rfl,?_,nofun,fun _=>⟨.any,k'⟩⟩
        · simp only [hn,b5b,Nat.reduceLT]
        · first | rfl | (simp (disch:=decide) only [gx,zV,b04,Nat.reduceEqDiff,reduceIte];done)
      | skip
        refine .inl ?_;simp (disch:=first | decide | rfl) only [gx,zE,zL,zN,b0w,b0s,Nat.reduceEqDiff,reduceIte,Nat.reduceLT,implies_true,forall_const,reduceCtorEq,V.ofValue,V.ofScalar,V.un,V.gd,b04,V.wrap,b07,aop,b3z,Nat.reduceAdd,Nat.reduceLeDiff,Nat.reduceMul,b0v,Value.oneCell',List.all_cons,List.all_nil,Bool.and_self,‹Tys _›.h,‹Fc _›.h];repeat (refine b4b ?_)
        exact k'):b1r P L rg K (fuel+1) listed ⟨env,O,vw,n,m⟩:=b1u hK kp i d hi hd hf hr ⟨v,hp,b⟩
theorem b1z {P:Program} {L:b4u} {rg:Array Oper} {K:St→Prop} {fuel:Nat} {listed:Array Bool} {env:List (Nat×V)} {O:List Blk} {vw:Bool} {n m:Nat} {oi:Oper} {rest:List Oper} {v:V} (hK:∀s t,EqS s t→K s→K t) (kp:Bool) (i d:Nat)
    (b:b1r P L rg K fuel (listed.setIfInBounds i true) ⟨(d,v)::env,O,vw,n,m⟩) (hi:rg.toList.drop i=oi::rest:=by rfl) (hd:oi.dst=some d:=by rfl) (hf:Region.freeG L kp rg listed i=true:=by kernel_rfl) (hr:(Region.ready .any rg listed).contains i=true:=by kernel_rfl)
    (hp:b5s P L rg kp oi d v ⟨env,O,vw,n,m⟩:=by
      intro t hn gx ho K' k';dsimp only at hn;first | have r0:=b03 (ho rfl) 0 rfl | have r0:=True.intro
      first | have r1:=b03 (ho rfl) 1 rfl | have r1:=True.intro
      first | have r2:=b03 (ho rfl) 2 rfl | have r2:=True.intro
      first | have r3:=b03 (ho rfl) 3 rfl | have r3:=True.intro
      first | have r4:=b03 (ho rfl) 4 rfl | have r4:=True.intro
      first | have r5:=b03 (ho rfl) 5 rfl | have r5:=True.intro
      refine .inl ?_;simp (disch:=first | decide | rfl) only [gx,r0,r1,r2,r3,r4,r5,zE,zL,zN,b0w,b0s,Nat.reduceEqDiff,reduceIte,Nat.reduceLT,implies_true,forall_const,reduceCtorEq,V.ofValue,V.ofScalar,V.un,V.gd,b07,aop,List.mem_cons,List.not_mem_nil,or_false,forall_eq_or_imp,forall_eq,b3q,b1n,Blk.row,Go.Vm.V.cells,List.forall_mem_map,List.length_map,Int.toNat_natCast,Int.reduceToNat,TypeDesc.slice.injEq,Nat.reduceAdd,Nat.reduceLeDiff,Nat.reduceMul,b0v,Value.oneCell',List.all_cons,List.all_nil,Bool.and_self,‹Tys _›.h,‹Fc _›.h];repeat (refine b4b ?_)
      exact k'):b1r P L rg K (fuel+1) listed ⟨env,O,vw,n,m⟩:=b1u hK kp i d hi hd hf hr ⟨v,hp,b⟩
theorem b0x {P:Program} {L:b4u} {rg:Array Oper} {K:St→Prop} {fuel:Nat} {listed:Array Bool} {env:List (Nat×V)} {O:List Blk} {vw:Bool} {n m:Nat} {oi:Oper} {rest:List Oper} {v:V} (hK:∀s t,EqS s t→K s→K t) (kp:Bool) (i d:Nat)
    (b:b1r P L rg K fuel (listed.setIfInBounds i true) ⟨(d,v)::env,O,vw,n,m⟩) (hi:rg.toList.drop i=oi::rest:=by rfl) (hd:oi.dst=some d:=by rfl) (hf:Region.freeG L kp rg listed i=true:=by kernel_rfl) (hr:(Region.ready .any rg listed).contains i=true:=by kernel_rfl)
    (hp : b5s P L rg kp oi d v ⟨env,O,vw,n,m⟩:=by
      intro t hn gx ho K' k';dsimp only at hn;first | have r0:=b03 (ho rfl) 0 rfl | have r0:=True.intro
      first | have r1:=b03 (ho rfl) 1 rfl | have r1:=True.intro
      first | have r2:=b03 (ho rfl) 2 rfl | have r2:=True.intro
      first | have r3:=b03 (ho rfl) 3 rfl | have r3:=True.intro
      first | have r4:=b03 (ho rfl) 4 rfl | have r4:=True.intro
      first | have r5:=b03 (ho rfl) 5 rfl | have r5:=True.intro
      first
      | refine .inr ⟨?_,_,_,false,rfl,?_,nofun,fun _=>⟨.any,k'⟩⟩
        · simp only [hn,b5b,Nat.reduceLT]
        · first | rfl | (simp (disch:=decide) only [gx,zV,b04,Nat.reduceEqDiff,reduceIte];done)
      | skip
        refine .inl ?_;simp (disch:=first | decide | rfl) only [gx,r0,r1,r2,r3,r4,r5,zE,zL,zN,b0w,b0s,Nat.reduceEqDiff,reduceIte,Nat.reduceLT,implies_true,forall_const,reduceCtorEq,V.ofValue,V.ofScalar,V.un,V.gd,b04,V.wrap,b07,aop,List.mem_cons,List.not_mem_nil,or_false,forall_eq_or_imp,forall_eq,b3q,b1n,Blk.row,Go.Vm.V.cells,List.forall_mem_map,List.length_map,Int.toNat_natCast,Int.reduceToNat,TypeDesc.slice.injEq,Nat.reduceAdd,Nat.reduceLeDiff,Nat.reduceMul,b0v,Value.oneCell',List.all_cons,List.all_nil,Bool.and_self,‹Tys _›.h,‹Fc _›.h];repeat (refine b4b ?_)
        exact k'):b1r P L rg K (fuel+1) listed ⟨env,O,vw,n,m⟩:=b1u hK kp i d hi hd hf hr ⟨v,hp,b⟩
theorem f11 {P:Program} {L:b4u} {rg:Array Oper} {K:St→Prop} {fuel:Nat} {listed:Array Bool} {env:List (Nat×V)} {O:List Blk} {vw:Bool} {n m:Nat} {oi:Oper} {rest:List Oper} {v:V} (hK:∀s t,EqS s t→K s→K t) (kp:Bool) (i d:Nat)
    (b:b1r P L rg K fuel (listed.setIfInBounds i true) ⟨(d,v)::env,O,vw,n,m⟩) (hi:rg.toList.drop i=oi::rest:=by rfl) (hd:oi.dst=some d:=by rfl) (hf:Region.freeG L kp rg listed i=true:=by kernel_rfl) (hr:(Region.ready .any rg listed).contains i=true:=by kernel_rfl)
    (hp:b5s P L rg kp oi d v ⟨env,O,vw,n,m⟩:=by
      intro t hn gx ho K' k';dsimp only at hn;refine .inl ?_;simp (disch:=first | decide | rfl) only [gx,zE,zL,zN,b0w,b0s,Nat.reduceEqDiff,reduceIte,Nat.reduceLT,implies_true,forall_const,reduceCtorEq,V.ofValue,V.ofScalar,V.un,V.gd,b07,aop,b9k,Int.toNat_natCast,Int.reduceToNat,Nat.reduceAdd,Nat.reduceLeDiff,Nat.reduceMul,b0v,Value.oneCell',List.all_cons,List.all_nil,Bool.and_self,‹Tys _›.h,‹Fc _›.h];repeat (refine b4b ?_)
      exact k'):b1r P L rg K (fuel+1) listed ⟨env,O,vw,n,m⟩:=b1u hK kp i d hi hd hf hr ⟨v,hp,b⟩
theorem c10 {P:Program} {L:b4u} {rg:Array Oper} {K:St→Prop} {fuel:Nat} {listed:Array Bool} {env:List (Nat×V)} {O:List Blk} {vw:Bool} {n m:Nat} {oi:Oper} {rest:List Oper} {v:V} (hK:∀s t,EqS s t→K s→K t) (kp:Bool) (i d:Nat)
    (b:b1r P L rg K fuel (listed.setIfInBounds i true) ⟨(d,v)::env,O,vw,n,m⟩) (hi:rg.toList.drop i=oi::rest:=by rfl) (hd:oi.dst=some d:=by rfl) (hf:Region.freeG L kp rg listed i=true:=by kernel_rfl) (hr:(Region.ready .any rg listed).contains i=true:=by kernel_rfl)
    (hp : b5s P L rg kp oi d v ⟨env,O,vw,n,m⟩:=by
      intro t hn gx ho K' k';dsimp only at hn;first
      | refine .inr ⟨?_,_,_,false,rfl,?_,nofun,fun _=>⟨.any,k'⟩⟩
        · simp only [hn,b5b,Nat.reduceLT]
        · first | rfl | (simp (disch:=decide) only [gx,zV,b04,Nat.reduceEqDiff,reduceIte];done)
      | skip
        refine .inl ?_;simp (disch:=first | decide | rfl) only [gx,zE,zL,zN,b0w,b0s,Nat.reduceEqDiff,reduceIte,Nat.reduceLT,implies_true,forall_const,reduceCtorEq,V.ofValue,V.ofScalar,V.un,V.gd,b04,V.wrap,b07,aop,b9k,Int.toNat_natCast,Int.reduceToNat,Nat.reduceAdd,Nat.reduceLeDiff,Nat.reduceMul,b0v,Value.oneCell',List.all_cons,List.all_nil,Bool.and_self,‹Tys _›.h,‹Fc _›.h];repeat (refine b4b ?_)
        exact k'):b1r P L rg K (fuel+1) listed ⟨env,O,vw,n,m⟩:=b1u hK kp i d hi hd hf hr ⟨v,hp,b⟩
theorem b2j {P:Program} {L:b4u} {rg:Array Oper} {K:St→Prop} {fuel:Nat} {listed:Array Bool} {env:List (Nat×V)} {O:List Blk} {vw:Bool} {n m:Nat} {oi:Oper} {rest:List Oper} {v:V} (hK:∀s t,EqS s t→K s→K t) (kp:Bool) (i d:Nat)
    (b:b1r P L rg K fuel (listed.setIfInBounds i true) ⟨(d,v)::env,O,vw,n,m⟩) (hi:rg.toList.drop i=oi::rest:=by rfl) (hd:oi.dst=some d:=by rfl) (hf:Region.freeG L kp rg listed i=true:=by kernel_rfl) (hr:(Region.ready .any rg listed).contains i=true:=by kernel_rfl)
    (hp:b5s P L rg kp oi d v ⟨env,O,vw,n,m⟩:=by
      intro t hn gx ho K' k';dsimp only at hn;refine .inl ?_;simp (disch:=first | decide | rfl) only [gx,zE,zL,zN,b0w,b0s,Nat.reduceEqDiff,reduceIte,Nat.reduceLT,implies_true,forall_const,reduceCtorEq,V.ofValue,V.ofScalar,V.un,V.gd,b07,aop,b8v,Nat.reduceAdd,Nat.reduceLeDiff,Nat.reduceMul,b0v,Value.oneCell',List.all_cons,List.all_nil,Bool.and_self,‹Tys _›.h,‹Fc _›.h];repeat (refine b4b ?_)
      exact k'):b1r P L rg K (fuel+1) listed ⟨env,O,vw,n,m⟩:=b1u hK kp i d hi hd hf hr ⟨v,hp,b⟩
theorem b5t {P:Program} {L:b4u} {rg:Array Oper} {K:St→Prop} {fuel:Nat} {listed:Array Bool} {env:List (Nat×V)} {O:List Blk} {vw:Bool} {n m:Nat} {oi:Oper} {rest:List Oper} {v:V} (hK:∀s t,EqS s t→K s→K t) (kp:Bool) (i d:Nat)
    (b:b1r P L rg K fuel (listed.setIfInBounds i true) ⟨(d,v)::env,O,vw,n,m⟩) (hi:rg.toList.drop i=oi::rest:=by rfl) (hd:oi.dst=some d:=by rfl) (hf:Region.freeG L kp rg listed i=true:=by kernel_rfl) (hr:(Region.ready .any rg listed).contains i=true:=by kernel_rfl)
    (hp:b5s P L rg kp oi d v ⟨env,O,vw,n,m⟩:=by
      intro t hn gx ho K' k';dsimp only at hn;first | have r0:=b03 (ho rfl) 0 rfl | have r0:=True.intro
      first | have r1:=b03 (ho rfl) 1 rfl | have r1:=True.intro
      first | have r2:=b03 (ho rfl) 2 rfl | have r2:=True.intro
      first | have r3:=b03 (ho rfl) 3 rfl | have r3:=True.intro
      first | have r4:=b03 (ho rfl) 4 rfl | have r4:=True.intro
      first | have r5:=b03 (ho rfl) 5 rfl | have r5:=True.intro
      refine .inl ?_;simp (disch:=first | decide | rfl) only [gx,r0,r1,r2,r3,r4,r5,zE,zL,zN,b0w,b0s,Nat.reduceEqDiff,reduceIte,Nat.reduceLT,implies_true,forall_const,reduceCtorEq,V.ofValue,V.ofScalar,V.un,V.gd,b07,aop,List.set_cons_zero,List.set_cons_succ,b9p,forall_eq',c0w,c0g,Option.map_none,Option.isNone_none,b1n,Blk.row,TypeDesc.slice.injEq,List.forall_mem_map,List.length_map,Go.Vm.V.cells,Int.toNat_natCast,Int.reduceToNat,←List.map_take,←List.map_drop,List.take_length,Nat.reduceAdd,Nat.reduceLeDiff,Nat.reduceMul,b0v,Value.oneCell',List.all_cons,List.all_nil,Bool.and_self,‹Tys _›.h,‹Fc _›.h];repeat (refine b4b ?_)
      exact k'):b1r P L rg K (fuel+1) listed ⟨env,O,vw,n,m⟩:=b1u hK kp i d hi hd hf hr ⟨v,hp,b⟩
theorem f0d {P:Program} {L:b4u} {rg:Array Oper} {K:St→Prop} {fuel:Nat} {listed:Array Bool} {env:List (Nat×V)} {O:List Blk} {vw:Bool} {n m:Nat} {oi:Oper} {rest:List Oper} {v:V} (hK:∀s t,EqS s t→K s→K t) (kp:Bool) (i d:Nat)
    (b:b1r P L rg K fuel (listed.setIfInBounds i true) ⟨(d,v)::env,O,vw,n,m⟩) (hi:rg.toList.drop i=oi::rest:=by rfl) (hd:oi.dst=some d:=by rfl) (hf:Region.freeG L kp rg listed i=true:=by kernel_rfl) (hr:(Region.ready .any rg listed).contains i=true:=by kernel_rfl)
    (hp:b5s P L rg kp oi d v ⟨env,O,vw,n,m⟩:=by
      intro t hn gx ho K' k';dsimp only at hn;first | have r0:=b03 (ho rfl) 0 rfl | have r0:=True.intro
      first | have r1:=b03 (ho rfl) 1 rfl | have r1:=True.intro
      first | have r2:=b03 (ho rfl) 2 rfl | have r2:=True.intro
      first | have r3:=b03 (ho rfl) 3 rfl | have r3:=True.intro
      first | have r4:=b03 (ho rfl) 4 rfl | have r4:=True.intro
      first | have r5:=b03 (ho rfl) 5 rfl | have r5:=True.intro
      refine .inl ?_;simp (disch:=first | decide | rfl) only [gx,r0,r1,r2,r3,r4,r5,zE,zL,zN,b0w,b0s,Nat.reduceEqDiff,reduceIte,Nat.reduceLT,implies_true,forall_const,reduceCtorEq,V.ofValue,V.ofScalar,V.un,V.gd,b07,aop,List.length_map,f0r,c0x,b1n,Blk.row,List.size_toArray,List.getD_eq_getElem?_getD,Array.getD_eq_getD_getElem?,Option.getD_some,Nat.reduceAdd,Nat.reduceLeDiff,Nat.reduceMul,b0v,Value.oneCell',List.all_cons,List.all_nil,Bool.and_self,‹Tys _›.h,‹Fc _›.h];repeat (refine b4b ?_)
      exact k'):b1r P L rg K (fuel+1) listed ⟨env,O,vw,n,m⟩:=b1u hK kp i d hi hd hf hr ⟨v,hp,b⟩
theorem d34 {P:Program} {L:b4u} {rg:Array Oper} {K:St→Prop} {fuel:Nat} {listed:Array Bool} {env:List (Nat×V)} {O:List Blk} {vw:Bool} {n m:Nat} {oi:Oper} {rest:List Oper} {v:V} (hK:∀s t,EqS s t→K s→K t) (kp:Bool) (i d:Nat)
    (b:b1r P L rg K fuel (listed.setIfInBounds i true) ⟨(d,v)::env,O,vw,n,m⟩) (hi:rg.toList.drop i=oi::rest:=by rfl) (hd:oi.dst=some d:=by rfl) (hf:Region.freeG L kp rg listed i=true:=by kernel_rfl) (hr:(Region.ready .any rg listed).contains i=true:=by kernel_rfl)
    (hp:b5s P L rg kp oi d v ⟨env,O,vw,n,m⟩:=by
      intro t hn gx ho K' k';dsimp only at hn;refine .inl ?_;simp (disch:=first | decide | rfl) only [gx,zE,zL,zN,b0w,b0s,Nat.reduceEqDiff,reduceIte,Nat.reduceLT,implies_true,forall_const,reduceCtorEq,V.ofValue,V.ofScalar,V.un,V.gd,b07,aop,c2g,b1n,Blk.row,TypeDesc.slice.injEq,Nat.reduceAdd,Nat.reduceLeDiff,Nat.reduceMul,b0v,Value.oneCell',List.all_cons,List.all_nil,Bool.and_self,‹Tys _›.h,‹Fc _›.h];repeat (refine b4b ?_)
      exact k'):b1r P L rg K (fuel+1) listed ⟨env,O,vw,n,m⟩:=b1u hK kp i d hi hd hf hr ⟨v,hp,b⟩
theorem d04 {P:Program} {L:b4u} {rg:Array Oper} {K:St→Prop} {fuel:Nat} {listed:Array Bool} {env:List (Nat×V)} {O:List Blk} {vw:Bool} {n m:Nat} {oi:Oper} {rest:List Oper} {v:V} (hK:∀s t,EqS s t→K s→K t) (kp:Bool) (i d:Nat)
    (b:b1r P L rg K fuel (listed.setIfInBounds i true) ⟨(d,v)::env,O,vw,n,m⟩) (hi:rg.toList.drop i=oi::rest:=by rfl) (hd:oi.dst=some d:=by rfl) (hf:Region.freeG L kp rg listed i=true:=by kernel_rfl) (hr:(Region.ready .any rg listed).contains i=true:=by kernel_rfl)
    (hp:b5s P L rg kp oi d v ⟨env,O,vw,n,m⟩:=by
      intro t hn gx ho K' k';dsimp only at hn;first | have r0:=b03 (ho rfl) 0 rfl | have r0:=True.intro
      first | have r1:=b03 (ho rfl) 1 rfl | have r1:=True.intro
      first | have r2:=b03 (ho rfl) 2 rfl | have r2:=True.intro
      first | have r3:=b03 (ho rfl) 3 rfl | have r3:=True.intro
      first | have r4:=b03 (ho rfl) 4 rfl | have r4:=True.intro
      first | have r5:=b03 (ho rfl) 5 rfl | have r5:=True.intro
      refine .inl ?_;simp (disch:=first | decide | rfl) only [gx,r0,r1,r2,r3,r4,r5,zE,zL,zN,b0w,b0s,Nat.reduceEqDiff,reduceIte,Nat.reduceLT,implies_true,forall_const,reduceCtorEq,V.ofValue,V.ofScalar,V.un,V.gd,b07,aop,c2g,b1n,Blk.row,TypeDesc.slice.injEq,Nat.reduceAdd,Nat.reduceLeDiff,Nat.reduceMul,b0v,Value.oneCell',List.all_cons,List.all_nil,Bool.and_self,‹Tys _›.h,‹Fc _›.h];repeat (refine b4b ?_)
      exact k'):b1r P L rg K (fuel+1) listed ⟨env,O,vw,n,m⟩:=b1u hK kp i d hi hd hf hr ⟨v,hp,b⟩
theorem b17 {P:Program} {L:b4u} {rg:Array Oper} {K:St→Prop} {fuel:Nat} {listed:Array Bool} {env:List (Nat×V)} {O:List Blk} {vw:Bool} {n m:Nat} {oi:Oper} {rest:List Oper} {v:V} (hK:∀s t,EqS s t→K s→K t) (kp:Bool) (i d:Nat)
    (b:b1r P L rg K fuel (listed.setIfInBounds i true) ⟨(d,v)::env,O,vw,n,m⟩) (hi:rg.toList.drop i=oi::rest:=by rfl) (hd:oi.dst=some d:=by rfl) (hf:Region.freeG L kp rg listed i=true:=by kernel_rfl) (hr:(Region.ready .any rg listed).contains i=true:=by kernel_rfl)
    (hp:b5s P L rg kp oi d v ⟨env,O,vw,n,m⟩:=by
      intro t hn gx ho K' k';dsimp only at hn;refine .inl ?_;simp (disch:=first | decide | rfl) only [gx,zE,zL,zO,zN,b0w,b0s,Nat.reduceEqDiff,reduceIte,Nat.reduceLT,implies_true,forall_const,reduceCtorEq,V.ofValue,V.ofScalar,V.un,V.gd,b07,aop,c5j,if_true,Nat.zero_mul,Nat.one_mul,Nat.mul_one,V.isVal,V.cells,List.mem_cons,List.not_mem_nil,or_false,forall_eq_or_imp,forall_eq,Nat.reduceAdd,Nat.reduceLeDiff,Nat.reduceMul,b0v,Value.oneCell',List.all_cons,List.all_nil,‹Tys _›.h,‹Fc _›.h];repeat (refine b4b ?_)
      exact k'):b1r P L rg K (fuel+1) listed ⟨env,O,vw,n,m⟩:=b1u hK kp i d hi hd hf hr ⟨v,hp,b⟩
theorem c6x {P:Program} {L:b4u} {rg:Array Oper} {K:St→Prop} {fuel:Nat} {listed:Array Bool} {env:List (Nat×V)} {O:List Blk} {vw:Bool} {n m:Nat} {oi:Oper} {rest:List Oper} {v:V} (hK:∀s t,EqS s t→K s→K t) (kp:Bool) (i d:Nat)
    (b:b1r P L rg K fuel (listed.setIfInBounds i true) ⟨(d,v)::env,O,vw,n,m⟩) (hi:rg.toList.drop i=oi::rest:=by rfl) (hd:oi.dst=some d:=by rfl) (hf:Region.freeG L kp rg listed i=true:=by kernel_rfl) (hr:(Region.ready .any rg listed).contains i=true:=by kernel_rfl)
    (hp : b5s P L rg kp oi d v ⟨env,O,vw,n,m⟩:=by
      intro t hn gx ho K' k';dsimp only at hn;first
      | refine .inr ⟨?_,_,_,false,rfl,?_,nofun,fun _=>⟨.any,k'⟩⟩
        · simp only [hn,b5b,Nat.reduceLT]
        · first | rfl | (simp (disch:=decide) only [gx,zV,b04,Nat.reduceEqDiff,reduceIte];done)
      | skip
        refine .inl ?_;simp (disch:=first | decide | rfl) only [gx,zE,zL,zO,zN,b0w,b0s,Nat.reduceEqDiff,reduceIte,Nat.reduceLT,implies_true,forall_const,reduceCtorEq,V.ofValue,V.ofScalar,V.un,V.gd,b04,V.wrap,b07,aop,c5j,if_true,Nat.zero_mul,Nat.one_mul,Nat.mul_one,V.isVal,V.cells,List.mem_cons,List.not_mem_nil,or_false,forall_eq_or_imp,forall_eq,Nat.reduceAdd,Nat.reduceLeDiff,Nat.reduceMul,b0v,Value.oneCell',List.all_cons,List.all_nil,‹Tys _›.h,‹Fc _›.h];repeat (refine b4b ?_)
        exact k'):b1r P L rg K (fuel+1) listed ⟨env,O,vw,n,m⟩:=b1u hK kp i d hi hd hf hr ⟨v,hp,b⟩
theorem b0p {P:Program} {L:b4u} {rg:Array Oper} {K:St→Prop} {fuel:Nat} {listed:Array Bool} {s:St} {oi:Oper} {rest:List Oper} {B:Prop} (i:Nat) (b:Ho B) (hi:rg.toList.drop i=oi::rest:=by rfl) (hr:Region.ready .any rg listed=[i]:=by kernel_rfl)
    (e:Ho B→(∀K':St→Prop,(∀s,b1r P L rg K fuel (listed.setIfInBounds i true) s→K' s)→b0w P L rg oi s K'):=by
      intro b K k;simp only [zE,zS,b0w,b0s,b0k,Nat.reduceEqDiff,reduceIte,Nat.reduceLT,implies_true,forall_const,reduceCtorEq,V.ofValue,V.ofScalar,V.un,V.gd,b07,aop,Nat.reduceAdd,b0v,Value.oneCell',List.all_cons,List.all_nil,Bool.and_self,‹Tys _›.h,‹Fc _›.h];repeat (refine b4b ?_)
      refine k _ ?_;clear k K;exact b.h):b1r P L rg K (fuel+1) listed s:=b5k i hi hr (e b)
theorem b06 {P:Program} {L:b4u} {rg:Array Oper} {K:St→Prop} {fuel:Nat} {listed:Array Bool} {s:St} {oi:Oper} {rest:List Oper} {B:Prop} (i:Nat) (b:Ho B) (hi:rg.toList.drop i=oi::rest:=by rfl) (hr:Region.ready .any rg listed=[i]:=by kernel_rfl)
    (e:Ho B→(∀K':St→Prop,(∀s,b1r P L rg K fuel (listed.setIfInBounds i true) s→K' s)→b0w P L rg oi s K'):=by
      intro b K k;simp only [zE,zS,zJ,zL,zO,zN,b0w,b0s,b0k,Nat.reduceEqDiff,reduceIte,Nat.reduceLT,implies_true,forall_const,reduceCtorEq,V.ofValue,V.ofScalar,V.un,V.gd,b07,aop,b8n,b2c,V.isVal,V.cells,b4o,b2t,V.noSl,V.noRef,gt_iff_lt,Nat.reduceAdd,Nat.reduceLeDiff,Nat.reduceMul,c0d,b1y,b2z,b1n,Blk.row,b4l,Nat.reduceBEq,c9z,b0v,Value.oneCell',‹Tys _›.h,‹Fc _›.h];repeat (refine b4b ?_)
      refine k _ ?_;clear k K;exact b.h):b1r P L rg K (fuel+1) listed s:=b5k i hi hr (e b)
theorem c8u {P:Program} {L:b4u} {rg:Array Oper} {K:St→Prop} {fuel:Nat} {listed:Array Bool} {s:St} {oi:Oper} {rest:List Oper} {B:Prop} (i:Nat) (b:Ho B) (hi:rg.toList.drop i=oi::rest:=by rfl) (hr:Region.ready .any rg listed=[i]:=by kernel_rfl)
    (e:Ho B→(∀K':St→Prop,(∀s,b1r P L rg K fuel (listed.setIfInBounds i true) s→K' s)→b0w P L rg oi s K'):=by
      intro b K k;simp only [zE,zS,zO,zN,b0w,b0s,b0k,Nat.reduceEqDiff,reduceIte,Nat.reduceLT,implies_true,forall_const,reduceCtorEq,V.ofValue,V.ofScalar,V.un,V.gd,b07,aop,Nat.reduceAdd,Value.oneCell',V.isVal,V.cells,b4o,b2t,V.noSl,V.noRef,List.all_cons,List.all_nil,List.map_cons,List.map_nil,gt_iff_lt,Nat.reduceLeDiff,Nat.reduceMul,b0v,‹Tys _›.h,‹Fc _›.h];repeat (refine b4b ?_)
      refine k _ ?_;clear k K;exact b.h):b1r P L rg K (fuel+1) listed s:=b5k i hi hr (e b)
theorem b1j {P:Program} {L:b4u} {rg:Array Oper} {K:St→Prop} {fuel:Nat} {listed:Array Bool} {s:St} {oi:Oper} {rest:List Oper} {B:Prop} (i:Nat) (b:Ho B) (hi:rg.toList.drop i=oi::rest:=by rfl) (hr:Region.ready .any rg listed=[i]:=by kernel_rfl)
    (e:Ho B→(∀K':St→Prop,(∀s,b1r P L rg K fuel (listed.setIfInBounds i true) s→K' s)→b0w P L rg oi s K'):=by
      intro b K k;simp only [zE,zO,zN,b0w,b0s,b0k,Nat.reduceEqDiff,reduceIte,Nat.reduceLT,implies_true,forall_const,reduceCtorEq,V.ofValue,V.ofScalar,V.un,V.gd,b07,aop,b8x,f9b,f84,f9a,f83,f9e,f81,f89,f87,f85,f9d,f4v,f46,f5s,List.map_cons,List.map_nil,List.all_cons,List.all_nil,V.isVal,V.cells,b4g,b0v,b2t,V.noRef,V.noSl,List.mem_cons,List.not_mem_nil,or_false,forall_eq_or_imp,forall_eq,if_true,Option.isSome_some,List.length_cons,List.length_nil,Nat.reduceAdd,Nat.reduceLeDiff,Nat.reduceMul,Value.oneCell',‹Tys _›.h,‹Fc _›.h];repeat (refine b4b ?_)
      refine k _ ?_;clear k K;exact b.h):b1r P L rg K (fuel+1) listed s:=b5k i hi hr (e b)
theorem b0m {P:Program} {L:b4u} {rg:Array Oper} {K:St→Prop} {fuel:Nat} {listed:Array Bool} {s:St} {oi:Oper} {rest:List Oper} {B:Prop} (i:Nat) (b:Ho B) (hi:rg.toList.drop i=oi::rest:=by rfl) (hr:Region.ready .any rg listed=[i]:=by kernel_rfl)
    (e:Ho B→(∀K':St→Prop,(∀s,b1r P L rg K fuel (listed.setIfInBounds i true) s→K' s)→b0w P L rg oi s K'):=by
      intro b K k;simp only [zE,zL,zO,zN,b0w,b0s,b0k,Nat.reduceEqDiff,reduceIte,Nat.reduceLT,implies_true,forall_const,reduceCtorEq,V.ofValue,V.ofScalar,V.un,V.gd,b07,aop,c44,beq_self_eq_true,List.nodup_cons,List.mem_singleton,forall_eq',List.size_toArray,List.getD_eq_getElem?_getD,Array.getD_eq_getD_getElem?,Option.getD_some,b7m,c7m,c9d,b4e,c0d,b1y,b2z,b1n,Blk.row,b4l,V.isSub,V.noSl,Value.cells,Option.toList,List.forall_mem_map,List.length_map,List.all_cons,List.all_nil,List.isEmpty_nil,List.isEmpty_cons,List.not_mem_nil,List.nodup_nil,d1z,d2e,d1i,d7w,d69,b92,c12,List.mem_cons,or_false,forall_eq_or_imp,forall_eq,List.set_cons_zero,List.set_cons_succ,List.length_append,Go.Vm.V.cells,Nat.reduceAdd,Nat.reduceLeDiff,Nat.reduceMul,b0v,Value.oneCell',‹Tys _›.h,‹Fc _›.h];repeat (refine b4b ?_)
      refine k _ ?_;clear k K;exact b.h):b1r P L rg K (fuel+1) listed s:=b5k i hi hr (e b)
theorem b3a {P:Program} {L:b4u} {rg:Array Oper} {K:St→Prop} {fuel:Nat} {listed:Array Bool} {s:St} {oi:Oper} {rest:List Oper} {B:Prop} (i:Nat) (b:Ho B) (hi:rg.toList.drop i=oi::rest:=by rfl) (hr:Region.ready .any rg listed=[i]:=by kernel_rfl)
    (e:Ho B→(Region.ready .any rg listed=[i])→(rg.toList.drop i=oi::rest)→b1r P L rg K (fuel+1) listed s:=by
      intro b hr hi;first
      | refine b3c _ _ _ _ hi rfl (ql7 rfl) hr rfl ?_ ?_
        · first | rfl | (simp only [zV,b04,Nat.reduceEqDiff,reduceIte];done)
        simp only [zW,b0k,Nat.reduceEqDiff,reduceIte];exact b.h
      | skip
        refine b5k _ hi hr ?_;intro K k;simp only [zE,zO,zV,zN,b0w,b0s,b0k,Nat.reduceEqDiff,reduceIte,Nat.reduceLT,implies_true,forall_const,reduceCtorEq,V.ofValue,V.ofScalar,V.un,V.gd,b04,V.wrap,b07,aop,b8x,f9b,f84,f9a,f83,f9e,f81,f89,f87,f85,f9d,f4v,f46,f5s,List.map_cons,List.map_nil,List.all_cons,List.all_nil,V.isVal,V.cells,b4g,b0v,b2t,V.noRef,V.noSl,List.mem_cons,List.not_mem_nil,or_false,forall_eq_or_imp,forall_eq,if_true,Option.isSome_some,List.length_cons,List.length_nil,Nat.reduceAdd,Nat.reduceLeDiff,Nat.reduceMul,Value.oneCell',‹Tys _›.h,‹Fc _›.h];repeat (refine b4b ?_)
        refine k _ ?_;clear k K;exact b.h):b1r P L rg K (fuel+1) listed s:=e b hr hi
theorem zoc {P:Program} {L:b4u} {rg:Array Oper} {K:St→Prop} {fuel:Nat} {listed:Array Bool} {s:St} {oi:Oper} {rest:List Oper} {B:Prop} {C:Prop} (i:Nat) (con:C) (b:Ho B) (hi:rg.toList.drop i=oi::rest:=by rfl) (hr:Region.ready .any rg listed=[i]:=by kernel_rfl)
    (e:C→Ho B→(∀K':St→Prop,(∀s,b1r P L rg K fuel (listed.setIfInBounds i true) s→K' s)→b0w P L rg oi s K'):=by
      intro con b K k;simp only [zE,zM,b0w,b0s,b0k,Nat.reduceEqDiff,reduceIte,Nat.reduceLT,implies_true,forall_const,reduceCtorEq,V.ofValue,V.ofScalar,V.un,V.gd,b07,b4i,b43,‹Tys _›.h,‹Fc _›.h];repeat (refine d5z ?_)
      refine b7c con (by first | rfl | (simp only [b1w,b3e,b1q,b1g,b2p,Option.map_some,idx,b1n,List.getElem?_cons_zero,List.getElem?_cons_succ,Option.bind_some,Blk.row,b05,b1s,b11,b10,b13,b14,cond_true,List.map_take];done) | (simp [b1w,b3e,b1q,b1g,b2p,idx,b1n,Blk.row,b05,b1s,b11,b10,b13,b14,Nat.beq_refl];done)) (by first | exact .inl ⟨rfl,by simp [Blk.kindIs,b5d,c0h]⟩ | exact .inr (by simp [V.cold])) ?_;refine k _ ?_;clear k K;simp only [zY,zW,b0k,Nat.reduceEqDiff,reduceIte,V.ren,V.renL,rho,Nat.reduceAdd];exact b.h):b1r P L rg K (fuel+1) listed s:=b5k i hi hr (e con b)
theorem zol {P:Program} {L:b4u} {rg:Array Oper} {K:St→Prop} {fuel:Nat} {listed:Array Bool} {s:St} {oi:Oper} {rest:List Oper} {B:Prop} {C:Prop} (i:Nat) (con:C) (b:Ho B) (hi:rg.toList.drop i=oi::rest:=by rfl) (hr:Region.ready .any rg listed=[i]:=by kernel_rfl)
    (e:C→Ho B→(∀K':St→Prop,(∀s,b1r P L rg K fuel (listed.setIfInBounds i true) s→K' s)→b0w P L rg oi s K'):=by
      intro con b K k;simp only [zE,zM,b0w,b0s,b0k,Nat.reduceEqDiff,reduceIte,Nat.reduceLT,implies_true,forall_const,reduceCtorEq,V.ofValue,V.ofScalar,V.un,V.gd,b07,b4i,b43,‹Tys _›.h,‹Fc _›.h];repeat (refine d5z ?_)
      refine c4m _ con (by first | rfl | (simp only [b1w,b3e,b1q,b1g,b2p,Option.map_some,idx,b1n,List.getElem?_cons_zero,List.getElem?_cons_succ,Option.bind_some,Blk.row,b05,b1s,b11,b10,b13,b14,cond_true,List.map_take];done) | (simp [b1w,b3e,b1q,b1g,b2p,idx,b1n,Blk.row,b05,b1s,b11,b10,b13,b14,Nat.beq_refl];done)) (by rfl) ⟨by simp [Blk.kindIs,b05,b1s],by simp⟩ (by first | exact .inl rfl | exact .inr (by simp [Blk.kindIs])) ⟨rfl,by simp [Blk.kindIs,b5d,c0h]⟩ ?_;refine k _ ?_;clear k K;simp only [zY,zW,b0k,Nat.reduceEqDiff,reduceIte,c4p,d82,V.ren,V.renL,List.set_cons_zero,List.set_cons_succ,Nat.reduceAdd,Nat.add_zero];exact b.h):b1r P L rg K (fuel+1) listed s:=b5k i hi hr (e con b)
theorem d2r {P:Program} {L:b4u} {rg:Array Oper} {K:St→Prop} {fuel:Nat} {listed:Array Bool} {s:St} {oi:Oper} {rest:List Oper} {B:Prop} {C:Prop} (i:Nat) (con:C) (b:Ho B) (hi:rg.toList.drop i=oi::rest:=by rfl) (hr:Region.ready .any rg listed=[i]:=by kernel_rfl)
    (e:C→Ho B→(Region.ready .any rg listed=[i])→(rg.toList.drop i=oi::rest)→b1r P L rg K (fuel+1) listed s:=by
      intro con b hr hi;first
      | refine b3c _ _ _ _ hi rfl (ql7 rfl) hr rfl ?_ ?_
        · first | rfl | (simp only [zV,b04,Nat.reduceEqDiff,reduceIte];done)
        simp only [zW,b0k,Nat.reduceEqDiff,reduceIte];exact b.h
      | skip
        refine b5k _ hi hr ?_;intro K k;simp only [zE,zG,b0w,b0s,b0k,Nat.reduceEqDiff,reduceIte,Nat.reduceLT,implies_true,forall_const,reduceCtorEq,V.ofValue,V.ofScalar,V.un,V.gd,b04,‹Tys _›.h,‹Fc _›.h];simp only [zM,zW,b07,b4i,b43,b0k,Nat.reduceEqDiff,reduceIte,V.ofValue,V.ofScalar,V.un,V.gd,and_true,true_and,implies_true,and_self,decide_eq_true_eq];first | refine Exists.imp (fun r h=>h) (c5v con (by first | rfl | (simp only [b1w,b3e,b1q,b1g,b2p,Option.map_some,idx,b1n,List.getElem?_cons_zero,List.getElem?_cons_succ,Option.bind_some,Blk.row,b05,b1s,b11,b10,b13,b14,cond_true,List.map_take];done) | (simp [b1w,b3e,b1q,b1g,b2p,idx,b1n,Blk.row,b05,b1s,b11,b10,b13,b14,Nat.beq_refl];done)) rfl rfl ?_) | refine Exists.imp (fun r h=>h) (c56 (fun hg=>con) (by first | rfl | (simp only [b1w,b3e,b1q,b1g,b2p,Option.map_some,idx,b1n,List.getElem?_cons_zero,List.getElem?_cons_succ,Option.bind_some,Blk.row,b05,b1s,b11,b10,b13,b14,cond_true,List.map_take];done) | (simp [b1w,b3e,b1q,b1g,b2p,idx,b1n,Blk.row,b05,b1s,b11,b10,b13,b14,Nat.beq_refl];done)) rfl rfl ?_) | refine Exists.imp (fun r h=>h) (c8i (by first | (intros;trivial) | (intros;simp_all;done)) (fun hg=>con) (by first | rfl | (simp only [b1w,b3e,b1q,b1g,b2p,Option.map_some,idx,b1n,List.getElem?_cons_zero,List.getElem?_cons_succ,Option.bind_some,Blk.row,b05,b1s,b11,b10,b13,b14,cond_true,List.map_take];done) | (simp [b1w,b3e,b1q,b1g,b2p,idx,b1n,Blk.row,b05,b1s,b11,b10,b13,b14,Nat.beq_refl];done)) rfl rfl ?_)
        refine k _ ?_;clear k K;exact b.h):b1r P L rg K (fuel+1) listed s:=e con b hr hi
end Go.Vm
namespace Go.Vm
open Go
def g0f (o:Oper):Nat:=(match o.op with
  | .move _=>0
  | .assign _=>2
  | .pick _ _ _=>4
  | .alloc _=>6
  | .box _ _=>8
  | .build _ _=>10
  | .buildSlice _ _ _=>12
  | .load _ _=>14
  | .store _ _ _=>16
  | .nilCheck _=>18
  | .unOp _ _ _=>26
  | .convert _ _ _=>28
  | .makeSlice _ _ _=>30
  | .slice _ _ _ _ _=>32
  | .fieldAddr _ _ _=>34
  | .field _ _ _=>36
  | .indexAddr _ _ _=>38
  | .index _ _ _=>40
  | .extract _ _=>42
  | .makeFunc _ _ _=>56
  | .binOp b _ _ y _=>(match y with
    | .const (.slice _ _ _)=>90
    | _=>match b with
      | .add | .sub | .mul | .quo=>22
      | _=>20)
  | .call c=>(match c.callee with
    | .builtin .len=>44
    | .builtin .append=>46
    | .builtin .max=>48
    | .builtin .min=>50
    | .builtin .copy=>52
    | .builtin .clear=>54
    | _=>60)
  | _=>90)+(match o.guard with
  | none=>0
  | _=>1)
theorem b6p {P:Program} {L:b4u} {rg:Array Oper} {K:St→Prop} {o:Oper} {rest:List Oper} {s:St} (n:Nat) (hn:g0f o=n) (h:d2o P L rg K (o::rest) s):d2o P L rg K (o::rest) s:=h
structure Ks (ks:List Nat):Prop where
  t:True
theorem c36 {P:Program} {L:b4u} {m:Nat} {Q:AEx→St→Prop} {s:St} {id:Nat} {ops:Array Oper} {y:Code} {ks:List Nat} (_:Ks ks)
    (h:∀K:St→Prop,(∀s,awp P L m y Q (s.keep ks)→K s)→d2o P L ops K ops.toList s):awp P L m (.seq (.region id ops false) y) Q s:=b1l ks h
theorem rA {R:St→Prop} {Q:AEx→St→Prop} {x:AEx} {s:St} (h:∀s,R s→Q x s) (g:R s):Q x s:=h s g
theorem eA {R:Nat→St→Prop} {Q:AEx→St→Prop} {i:Nat} {s:St} (h:∀i s,R i s→Q (.exit i) s) (g:R i s):Q (.exit i) s:=h i s g
theorem eB {R:Nat→St→Prop} {Q:AEx→St→Prop} {i j:Nat} {s:St} (h:∀i s,i≠j→R i s→Q (.exit i) s) (hi:i≠j) (g:R i s):Q (.exit i) s:=h i s hi g
theorem nA {m:Nat} {ks:List Nat} {A:St→Prop} {Q:AEx→St→Prop} {s:St} (_:Ks ks) (h:∀s s1,b6j m s s1→A s1→Q .normal s) (g:A (s.keep ks)):Q .normal s:=h _ _ (b0f ks s) g
theorem zz {A B:Prop} (b:Ho B) (e:Ho B→A:=by
  intro b;repeat (first
    | (refine b6p 0 rfl ?_;refine b15 ⟨?_⟩)
    | (refine b6p 14 rfl ?_;refine f4b ⟨?_⟩)
    | (refine b6p 20 rfl ?_;refine c0m ⟨?_⟩)
    | (refine b6p 2 rfl ?_;refine b2l ⟨?_⟩)
    | (refine b6p 34 rfl ?_;refine b5w ⟨?_⟩)
    | (refine b6p 38 rfl ?_;refine b78 ⟨?_⟩)
    | (refine b6p 16 rfl ?_;refine b7a ⟨?_⟩)
    | (refine b6p 42 rfl ?_;refine c3c ⟨?_⟩)
    | (refine b6p 44 rfl ?_;refine f9n ⟨?_⟩)
    | (refine b6p 22 rfl ?_;refine b6z ⟨?_⟩)
    | (refine b6p 28 rfl ?_;refine d7m ⟨?_⟩)
    | (refine b6p 26 rfl ?_;refine f4l ⟨?_⟩)
    | (refine b6p 32 rfl ?_;refine f6c ⟨?_⟩)
    | (refine b6p 6 rfl ?_;refine d7q ⟨?_⟩)
    | (refine b6p 8 rfl ?_;refine g0h ⟨?_⟩)
    | (refine b6p 10 rfl ?_;refine d0b ⟨?_⟩)
    | (refine b6p 12 rfl ?_;refine b4q ⟨?_⟩)
    | (refine b6p 46 rfl ?_;refine f21 ⟨?_⟩)
    | (refine b6p 4 rfl ?_;refine c5l ⟨?_⟩)
    | (refine b6p 18 rfl ?_;refine f32 ⟨?_⟩)
    | (refine b6p 30 rfl ?_;refine d9w ⟨?_⟩)
    | (refine b6p 36 rfl ?_;refine zField ⟨?_⟩)
    | (refine b6p 40 rfl ?_;refine f8k ⟨?_⟩)
    | (refine b6p 48 rfl ?_;refine g0j ⟨?_⟩)
    | (refine b6p 50 rfl ?_;refine zMin ⟨?_⟩)
    | (refine b6p 52 rfl ?_;refine zCopy ⟨?_⟩)
    | (refine b6p 54 rfl ?_;refine f6p ⟨?_⟩)
    | (refine b6p 56 rfl ?_;refine f1k ⟨?_⟩)
    | (refine b6p 1 rfl ?_;refine b82 ⟨?_⟩)
    | (refine b6p 15 rfl ?_;refine f6x ⟨?_⟩)
    | (refine b6p 21 rfl ?_;refine c2q ⟨?_⟩)
    | (refine b6p 3 rfl ?_;refine zgAssign ⟨?_⟩)
    | (refine b6p 35 rfl ?_;refine c7g ⟨?_⟩)
    | (refine b6p 39 rfl ?_;refine c7r ⟨?_⟩)
    | (refine b6p 17 rfl ?_;refine zgStore ⟨?_⟩)
    | (refine b6p 43 rfl ?_;refine zgExtract ⟨?_⟩)
    | (refine b6p 45 rfl ?_;refine f5h ⟨?_⟩)
    | (refine b6p 23 rfl ?_;refine f4s ⟨?_⟩)
    | (refine b6p 29 rfl ?_;refine zgConvert ⟨?_⟩)
    | (refine b6p 27 rfl ?_;refine d3r ⟨?_⟩)
    | (refine b6p 33 rfl ?_;refine zgSlice ⟨?_⟩)
    | (refine b6p 7 rfl ?_;refine zgAlloc ⟨?_⟩)
    | (refine b6p 9 rfl ?_;refine zgBox ⟨?_⟩)
    | (refine b6p 11 rfl ?_;refine f7i ⟨?_⟩)
    | (refine b6p 13 rfl ?_;refine zgBuildSlice ⟨?_⟩)
    | (refine b6p 47 rfl ?_;refine zgAppend ⟨?_⟩)
    | (refine b6p 5 rfl ?_;refine f13 ⟨?_⟩)
    | (refine b6p 19 rfl ?_;refine f0a ⟨?_⟩)
    | (refine b6p 31 rfl ?_;refine zgMakeSlice ⟨?_⟩)
    | (refine b6p 37 rfl ?_;refine zgField ⟨?_⟩)
    | (refine b6p 41 rfl ?_;refine f6z ⟨?_⟩)
    | (refine b6p 49 rfl ?_;refine zgMax ⟨?_⟩)
    | (refine b6p 51 rfl ?_;refine zgMin ⟨?_⟩)
    | (refine b6p 53 rfl ?_;refine zgCopy ⟨?_⟩)
    | (refine b6p 55 rfl ?_;refine zgClear ⟨?_⟩)
    | (refine b6p 57 rfl ?_;refine d9z ⟨?_⟩))
  exact b.h):A:=e b
theorem zr {A B:Prop} (b:Ho B) (e:Ho B→A:=by
  intro b;refine f9p ?_;repeat (refine rA (by assumption) ?_)
  refine zf ⟨?_⟩;exact b.h):A:=e b
theorem zn (ks:List Nat) {A B:Prop} (b:Ho B) (e:Ks ks→Ho B→A:=by
  intro q b;first | refine b5z ?_ | refine f6w ?_ | skip
  repeat (first | refine rA (by assumption) ?_ | refine eA (by assumption) ?_ | refine eB (by assumption) (by decide) ?_)
  refine nA q (by assumption) ?_;simp only [b02,b0n,b0l,b0j,b0u,Nat.reduceEqDiff,reduceIte];exact b.h):A:=e ⟨trivial⟩ b
theorem zx {A B:Prop} (b:Ho B) (e:Ho B→A:=by
  intro b;first | refine b5z ?_ | refine f6w ?_
  repeat (first | refine rA (by assumption) ?_ | refine eA (by assumption) ?_ | refine eB (by assumption) (by decide) ?_)
  exact b.h):A:=e b
theorem yR (ks:List Nat) {A B:Prop} (b:Ho B) (e:Ks ks→Ho B→A:=by
  intro q b;refine c36 q ?_;intro K k;refine zz ⟨?_⟩;refine k _ ?_;clear k K;simp only [b02,b0n,b0l,b0j,b0u,Nat.reduceEqDiff,reduceIte];exact b.h):A:=e ⟨trivial⟩ b
theorem yQ (ks:List Nat) {A B:Prop} (b:Ho B) (e:Ks ks→Ho B→A:=by
  intro q b;refine b2m ?_;intro K k;refine zz ⟨?_⟩;refine k _ ?_;clear k K;repeat (first | refine rA (by assumption) ?_ | refine eA (by assumption) ?_ | refine eB (by assumption) (by decide) ?_)
  refine nA q (by assumption) ?_;simp only [b02,b0n,b0l,b0j,b0u,Nat.reduceEqDiff,reduceIte];exact b.h):A:=e ⟨trivial⟩ b
theorem yV {A B:Prop} (b:Ho B) (e:Ho B→A:=by
  intro b;refine b2m ?_;intro K k;refine zz ⟨?_⟩;refine k _ ?_;clear k K;repeat (first | refine rA (by assumption) ?_ | refine eA (by assumption) ?_ | refine eB (by assumption) (by decide) ?_)
  exact b.h):A:=e b
theorem yRc (ks:List Nat) {C0 A B:Prop} (con0:C0) (b:Ho B) (e:Ks ks→C0→Ho B→A:=by
  intro q con0 b;refine c36 q ?_;intro K k;refine zz ⟨?_⟩;refine zc con0 ⟨?_⟩;refine zz ⟨?_⟩;refine k _ ?_;clear k K;simp only [b02,b0n,b0l,b0j,b0u,Nat.reduceEqDiff,reduceIte];exact b.h):A:=e ⟨trivial⟩ con0 b
theorem yRg (ks:List Nat) {C0 A B:Prop} (con0:C0) (b:Ho B) (e:Ks ks→C0→Ho B→A:=by
  intro q con0 b;refine c36 q ?_;intro K k;refine zz ⟨?_⟩;refine zgc con0 ⟨?_⟩;refine zz ⟨?_⟩;refine k _ ?_;clear k K;simp only [b02,b0n,b0l,b0j,b0u,Nat.reduceEqDiff,reduceIte];exact b.h):A:=e ⟨trivial⟩ con0 b
theorem f86 (ks:List Nat) {C0 C1 A B:Prop} (con0:C0) (con1:C1) (b:Ho B) (e:Ks ks→C0→C1→Ho B→A:=by
  intro q con0 con1 b;refine c36 q ?_;intro K k;refine zz ⟨?_⟩;refine zc con0 ⟨?_⟩;refine zz ⟨?_⟩;refine zc con1 ⟨?_⟩;refine zz ⟨?_⟩;refine k _ ?_;clear k K;simp only [b02,b0n,b0l,b0j,b0u,Nat.reduceEqDiff,reduceIte];exact b.h):A:=e ⟨trivial⟩ con0 con1 b
theorem d2w (ks:List Nat) {C0 C1 A B:Prop} (con0:C0) (con1:C1) (b:Ho B) (e:Ks ks→C0→C1→Ho B→A:=by
  intro q con0 con1 b;refine c36 q ?_;intro K k;refine zz ⟨?_⟩;refine zc con0 ⟨?_⟩;refine zz ⟨?_⟩;refine zgc con1 ⟨?_⟩;refine zz ⟨?_⟩;refine k _ ?_;clear k K;simp only [b02,b0n,b0l,b0j,b0u,Nat.reduceEqDiff,reduceIte];exact b.h):A:=e ⟨trivial⟩ con0 con1 b
theorem f94 (ks:List Nat) {C0 C1 A B:Prop} (con0:C0) (con1:C1) (b:Ho B) (e:Ks ks→C0→C1→Ho B→A:=by
  intro q con0 con1 b;refine c36 q ?_;intro K k;refine zz ⟨?_⟩;refine zgc con0 ⟨?_⟩;refine zz ⟨?_⟩;refine zgc con1 ⟨?_⟩;refine zz ⟨?_⟩;refine k _ ?_;clear k K;simp only [b02,b0n,b0l,b0j,b0u,Nat.reduceEqDiff,reduceIte];exact b.h):A:=e ⟨trivial⟩ con0 con1 b
theorem c6c (ks:List Nat) {C0 C1 C2 A B:Prop} (con0:C0) (con1:C1) (con2:C2) (b:Ho B) (e:Ks ks→C0→C1→C2→Ho B→A:=by
  intro q con0 con1 con2 b;refine c36 q ?_;intro K k;refine zz ⟨?_⟩;refine zc con0 ⟨?_⟩;refine zz ⟨?_⟩;refine zgc con1 ⟨?_⟩;refine zz ⟨?_⟩;refine zgc con2 ⟨?_⟩;refine zz ⟨?_⟩;refine k _ ?_;clear k K;simp only [b02,b0n,b0l,b0j,b0u,Nat.reduceEqDiff,reduceIte];exact b.h):A:=e ⟨trivial⟩ con0 con1 con2 b
theorem f9v (ks:List Nat) {C0 C1 C2 A B:Prop} (con0:C0) (con1:C1) (con2:C2) (b:Ho B) (e:Ks ks→C0→C1→C2→Ho B→A:=by
  intro q con0 con1 con2 b;refine c36 q ?_;intro K k;refine zz ⟨?_⟩;refine zgc con0 ⟨?_⟩;refine zz ⟨?_⟩;refine zgc con1 ⟨?_⟩;refine zz ⟨?_⟩;refine zgc con2 ⟨?_⟩;refine zz ⟨?_⟩;refine k _ ?_;clear k K;simp only [b02,b0n,b0l,b0j,b0u,Nat.reduceEqDiff,reduceIte];exact b.h):A:=e ⟨trivial⟩ con0 con1 con2 b
theorem yR3 (ks:List Nat) {C0 A B:Prop} (con0:C0) (b:Ho B) (e:Ks ks→C0→Ho B→A:=by
  intro q con0 b;refine c36 q ?_;intro K k;refine zz ⟨?_⟩;refine g0c con0 ⟨?_⟩;refine zz ⟨?_⟩;refine k _ ?_;clear k K;simp only [b02,b0n,b0l,b0j,b0u,Nat.reduceEqDiff,reduceIte];exact b.h):A:=e ⟨trivial⟩ con0 b
theorem yQc (ks:List Nat) {C0 A B:Prop} (con0:C0) (b:Ho B) (e:Ks ks→C0→Ho B→A:=by
  intro q con0 b;refine b2m ?_;intro K k;refine zz ⟨?_⟩;refine zc con0 ⟨?_⟩;refine zz ⟨?_⟩;refine k _ ?_;clear k K;repeat (first | refine rA (by assumption) ?_ | refine eA (by assumption) ?_ | refine eB (by assumption) (by decide) ?_)
  refine nA q (by assumption) ?_;simp only [b02,b0n,b0l,b0j,b0u,Nat.reduceEqDiff,reduceIte];exact b.h):A:=e ⟨trivial⟩ con0 b
theorem yVc {C0 A B:Prop} (con0:C0) (b:Ho B) (e:C0→Ho B→A:=by
  intro con0 b;refine b2m ?_;intro K k;refine zz ⟨?_⟩;refine zc con0 ⟨?_⟩;refine zz ⟨?_⟩;refine k _ ?_;clear k K;repeat (first | refine rA (by assumption) ?_ | refine eA (by assumption) ?_ | refine eB (by assumption) (by decide) ?_)
  exact b.h):A:=e con0 b
theorem yVg {C0 A B:Prop} (con0:C0) (b:Ho B) (e:C0→Ho B→A:=by
  intro con0 b;refine b2m ?_;intro K k;refine zz ⟨?_⟩;refine zgc con0 ⟨?_⟩;refine zz ⟨?_⟩;refine k _ ?_;clear k K;repeat (first | refine rA (by assumption) ?_ | refine eA (by assumption) ?_ | refine eB (by assumption) (by decide) ?_)
  exact b.h):A:=e con0 b
theorem yVl {C0 A B:Prop} (con0:C0) (b:Ho B) (e:C0→Ho B→A:=by
  intro con0 b;refine b2m ?_;intro K k;refine zz ⟨?_⟩;refine zcl con0 ⟨?_⟩;refine zz ⟨?_⟩;refine k _ ?_;clear k K;repeat (first | refine rA (by assumption) ?_ | refine eA (by assumption) ?_ | refine eB (by assumption) (by decide) ?_)
  exact b.h):A:=e con0 b
end Go.Vm
namespace Go.Vm
open Go
def c2n (O O':List Blk):Prop:=∀(id:Nat) (b:Blk),id≠0→O[id]? =some b→O'[id]? =some b
theorem c2n.refl (O:List Blk):c2n O O:=fun _ _ _ h=>h
theorem c2n.app {O new:List Blk}:c2n O (O++new):=fun id b _ h=>Grow.app O new id b h
theorem c2n.set0 {O new:List Blk} {b:Blk}:c2n O (O.set 0 b++new):=fun id c h0 h=>Grow.app _ new id c (by rw [qlg (Ne.symm h0)];exact h)
theorem c2n.set1 {O new:List Blk} {b c:Blk} {i:Nat} (h:O[i]? =some c):c2n O ((O.set 0 b).set i c++new):=fun id d h0 q=>Grow.app _ new id d (by
  by_cases e:i=id
  · subst e
    rw [qlo (by rw [qlp];exact (qlc.1 h).1),←h,q]
  · rw [qlg e,qlg (Ne.symm h0)];exact q)
abbrev TyG:=List Blk→(Nat→V)→Prop
def f1y (T:TyG) (dl:List Nat):Prop:=∀O O' g g',c2n O O'→(∀x∈dl,g' x=g x)→T O g→T O' g'
def c08 (rg:Array Oper) (j:Nat):List Nat:=match rg[j]? with
  | some o=>(o.after.toList.filter fun e=>Go.Region.binds .any e).map (·.on)
  | none=>[]
def f69 (rg:Array Oper) (i:Nat):Option Nat:=(rg[i]?).bind (·.dst)
def f7a (rg:Array Oper):Nat→List Nat→List Nat
  | 0,l=>l
  | k+1,l=>f7a rg k ((List.range rg.size).filter fun i=>l.contains i || l.any fun j=>(c08 rg j).contains i)
def d53 (rg:Array Oper) (S Rq D0:List Nat) (Dp:List (List Nat)):Bool:=
  ((List.range rg.size).all fun j=>(c08 rg j).all (Nat.blt · j)) &&
  ((List.range rg.size).all fun j=>S.contains j || Rq.all fun i=>(f7a rg 12 (c08 rg j)).contains i) && (Rq.all fun i=>S.contains i) &&
  (S.all fun i=>Nat.blt i rg.size && match f69 rg i with
    | none=>true
    | some d=> !D0.contains d && (List.range Dp.length).all fun j=>Nat.beq j i || (c08 rg j).contains i || !(Dp.getD j []).contains d)
def d1q (cv:Int→Int→Blk) (n:Nat) (env:List (Nat×V)) (mask:Nat) (O:List Blk) (a cm:Int) (d:Option Nat) (T:TyG) (t':St):Prop:=
  ∃v O' a' s',t'=(⟨env,O',false,n,mask⟩:St).set d v∧c2n O O'∧O'[0]? =some (cv a' s')∧a≤a'∧a'≤a+cm∧T O' t'.get
def f9k (P:Program) (L:b4u) (rg:Array Oper) (cv:Int→Int→Blk) (n:Nat) (a0 cm:Int) (T0:TyG) (Ts:Nat→TyG) (i:Nat) (o:Oper):Prop:=
  ∀ env O mask a s,O[0]? =some (cv a s)→(a0≤a∧a≤a0+cm * rg.size)→T0 O (fun x=>look x env)→(∀j∈c08 rg i,Ts j O (fun x=>look x env))→
    ∀K':St→Prop,(∀s,d1q cv n env mask O a cm o.dst (Ts i) s→K' s)→c6d P L rg o ⟨env,O,false,n,mask⟩ K'
structure RI (rg:Array Oper) (cv:Int→Int→Blk) (n:Nat) (a0 cm:Int) (S:List Nat) (T0:TyG) (Ts:Nat→TyG) (k:Nat) (listed:Array Bool) (t:St):Prop where
  st:∃env O mask a s,t=⟨env,O,false,n,mask⟩∧O[0]? =some (cv a s)∧a0≤a∧a≤a0+cm * k
  t0:T0 t.O t.get
  ts:∀j∈S,listed.getD j true=true→Ts j t.O t.get
  cl:∀j∈S,listed.getD j true=true→∀i∈c08 rg j,listed.getD i true=true
  sz:listed.size=rg.size
  only:∀j,j < rg.size→listed.getD j true=true→j∈S
section
variable {P:Program} {L:b4u} {rg:Array Oper} {K:St→Prop}
theorem f4y {listed:Array Bool} {j:Nat} (hj:j < rg.size) (h0:listed.getD j true=false) (h:∀i∈c08 rg j,listed.getD i false=true):j∈Region.ready .any rg listed:=by
  refine mem_ready.2 ⟨h0,rg[j],Array.getElem?_eq_getElem hj,fun e he hb=>h _ ?_⟩;have e1:rg[j]? =some rg[j]:=Array.getElem?_eq_getElem hj;simp only [c08,e1,List.mem_map,List.mem_filter];exact ⟨e,⟨by simpa using he,hb⟩,rfl⟩
theorem f26 {listed:Array Bool} {j:Nat} (h:j∈Region.ready .any rg listed):listed.getD j true=false∧j < rg.size∧∀i∈c08 rg j,listed.getD i false=true:=by
  obtain ⟨h0,o,ho,hall⟩:=mem_ready.1 h;refine ⟨h0,(Array.getElem?_eq_some_iff.1 ho).1,fun i hi=> ?_⟩;simp only [c08,ho,List.mem_map,List.mem_filter] at hi;obtain ⟨e,⟨he,hb⟩,rfl⟩:=hi;exact hall e (by simpa using he) hb
theorem d18 {listed:Array Bool} {i:Nat} (h:i < listed.size):listed.getD i false=listed.getD i true:=by
  simp [Array.getD,h]
theorem f0c {cv:Int→Int→Blk} {n:Nat} {a0 cm:Int} (S Rq D0:List Nat) (Dp:List (List Nat)) {T0:TyG} {Ts:Nat→TyG} (hreg:d53 rg S Rq D0 Dp=true) (hnd:S.Nodup) (hcm:0≤cm)
    (h0:f1y T0 D0) (hT:∀j∈S,f1y (Ts j) (Dp.getD j [])∧j < Dp.length)
    (ops:∀i∈S,∀o,rg[i]? =some o→f9k P L rg cv n a0 cm T0 Ts i o)
    (tail:∀u (listed:Array Bool) env O mask a s,listed.size=rg.size→(∀j,j < rg.size→listed.getD j true=true→j∈S)→(∀j∈Rq,listed.getD j true=true)→(S.filter fun j=> !listed.getD j true).length=u→
      O[0]? =some (cv a s)→(a0≤a∧a≤a0+cm * rg.size)→T0 O (fun x=>look x env)→(∀j∈S,listed.getD j true=true→Ts j O (fun x=>look x env))→
      b1r P L rg K (rg.size - S.length+u) listed ⟨env,O,false,n,mask⟩) :
    ∀u k listed t,RI rg cv n a0 cm S T0 Ts k listed t→(S.filter fun j=> !listed.getD j true).length=u→k+u≤rg.size→b1r P L rg K (rg.size - S.length+u) listed t:=by
  simp only [d53,Bool.and_eq_true] at hreg;obtain ⟨⟨⟨r1,r2⟩,r4⟩,r3⟩:=hreg;have rqS:∀j∈Rq,j∈S:=fun j hj=>by
    have:=qlf.1 r4 j hj;simpa using this
  intro u
  induction u with
  | zero=>
    intro k listed t hI hu hk;obtain ⟨env,O,mask,a,s,rfl,hc,ha1,ha2⟩:=hI.st;have hall:∀j∈S,listed.getD j true=true:=fun j hj=>by
      have:=qlv.1 hu;rw [List.filter_eq_nil_iff] at this;simpa using this j hj
    have hkk:cm * (k:Int)≤cm * (rg.size:Int):=Int.mul_le_mul_of_nonneg_left (by omega) hcm;exact tail 0 listed env O mask a s hI.sz hI.only (fun j hj=>hall j (rqS j hj)) hu hc ⟨ha1,by omega⟩ hI.t0 hI.ts
  | succ u ih =>
    intro k listed t hI hu hk;obtain ⟨env,O,mask,a,s,rfl,hc,ha1,ha2⟩:=hI.st;have hkk:cm * (k:Int)≤cm * (rg.size:Int):=Int.mul_le_mul_of_nonneg_left (by omega) hcm
    by_cases hall:∀j∈Rq,listed.getD j true=true
    · exact tail (u+1) listed env O mask a s hI.sz hI.only hall hu hc ⟨ha1,by omega⟩ hI.t0 hI.ts
    have hex:∃i∈Rq,listed.getD i true=false:=by
      refine Classical.byContradiction fun h=>hall fun j hj=> ?_
      cases q:listed.getD j true with
      | true=>rfl
      | false=>exact absurd ⟨j,hj,q⟩ h
    obtain ⟨i0,hi0q,hi1⟩:=hex;have hi0:=rqS i0 hi0q;have lt:∀j∈S,j < rg.size:=fun j hj=>by
      have:=qlf.1 r3 j hj;rw [qld] at this;simpa using this.1
    refine ⟨fun hnil=> ?_,fun i hi o ho=> ?_⟩
    · exfalso
      have least:∀b,∀j,j < b→j < rg.size→listed.getD j true=false→False:=by
        intro b
        induction b with
        | zero=>intro j hj;omega
        | succ b ihb=>
          intro j hj hjn h0;have:j∈Region.ready .any rg listed:=f4y hjn h0 fun i hi=>by
            have hlt:i < j:=by
              have:=qlf.1 (qlf.1 r1 j (qmb.2 hjn)) i hi;simpa using this
            rw [d18 (by rw [hI.sz];omega)];cases q:listed.getD i true with
            | true=>rfl
            | false=>exact (ihb i (by omega) (by omega) q).elim
          rw [hnil] at this;cases this
      exact least (i0+1) i0 (Nat.lt_succ_self _) (lt i0 hi0) hi1
    · obtain ⟨hun,hin,haft⟩:=f26 hi
      have aftlt:∀j,j < rg.size→∀x∈c08 rg j,x < j:=fun j hj x hx=>by
        have:=qlf.1 (qlf.1 r1 j (qmb.2 hj)) x hx;simpa using this
      have clo:∀(k:Nat) (l:List Nat),(∀x∈l,x < rg.size∧listed.getD x true=true)→∀x∈f7a rg k l,listed.getD x true=true:=by
        intro k
        induction k with
        | zero=>exact fun l h x hx=>(h x hx).2
        | succ k ihk=>
          intro l h x hx;refine ihk _ (fun y hy=> ?_) x hx;rw [List.mem_filter,qmb,Bool.or_eq_true] at hy;refine ⟨hy.1,?_⟩;rcases hy.2 with q | q
          · exact (h y (by simpa using q)).2
          · obtain ⟨j,hj,hjy⟩:=List.any_eq_true.1 q
            exact hI.cl j (hI.only j (h j hj).1 (h j hj).2) (h j hj).2 y (by simpa using hjy)
      have hiS:i∈S:=by
        have:=qlf.1 r2 i (qmb.2 hin);rw [Bool.or_eq_true] at this;rcases this with q | q
        · simpa using q
        · have:=qlf.1 q i0 hi0q
          have:=clo 12 (c08 rg i) (fun x hx=>⟨Nat.lt_trans (aftlt i hin x hx) hin,by
            have q2:=haft x hx
            rwa [d18 (by rw [hI.sz];exact Nat.lt_trans (aftlt i hin x hx) hin)] at q2⟩) i0 (by simpa using this)
          rw [hi1] at this;cases this
      refine ops i hiS o ho env O mask a s hc ⟨ha1,by omega⟩ hI.t0 (fun j hj=> ?_) _ (fun t' hp=> ?_)
      · have h1:=haft j hj
        have hjn:j < rg.size:=by
          have:=qlf.1 (qlf.1 r1 i (qmb.2 hin)) j hj;have:j < i:=by simpa using this
          omega
        rw [d18 (by rw [hI.sz];exact hjn)] at h1;exact hI.ts j (hI.only j hjn h1) h1
      · obtain ⟨v,O',a',s',rfl,hko,hc',hb1,hb2,hT'⟩:=hp
        have hdst:f69 rg i=o.dst:=by simp [f69,ho]
        have hget:∀x,o.dst≠some x→((⟨env,O',false,n,mask⟩:St).set o.dst v).get x=look x env:=by
          intro x hx;cases hd:o.dst with
          | none=>rfl
          | some d=>
            show look x ((d,v)::env)=look x env;rw [b0j,if_neg (fun e=>hx (by rw [hd,e]))]
        have hslot:∀d,o.dst=some d→d ∉ D0∧∀j,j < Dp.length→j≠i→i ∉ c08 rg j→d ∉ Dp.getD j []:=by
          intro d hd;have:=qlf.1 r3 i hiS;rw [qld,hdst,hd] at this;simp only [Bool.and_eq_true,Bool.not_eq_true'] at this;refine ⟨fun m=> ?_,fun j hj hji haj m=> ?_⟩
          · have q:=this.2.1
            rw [qmd.2 m] at q;cases q
          · have q:=qlf.1 this.2.2 j (qmb.2 hj)
            simp only [Bool.or_eq_true,List.contains_iff_mem,Bool.not_eq_true'] at q;rcases q with (q | q) | q
            · exact hji (Nat.eq_of_beq_eq_true q)
            · exact haj q
            · rw [qmd.2 m] at q;cases q
        have hstO:((⟨env,O',false,n,mask⟩:St).set o.dst v).O=O':=by rw [f3a]
        have hlist:∀j,(listed.setIfInBounds i true).getD j true=true→j=i∨listed.getD j true=true:=fun j h=>by
          by_cases e:j=i
          · exact .inl e
          · rw [getD_set_ne true (Ne.symm e)] at h;exact .inr h
        have hself:∀j,listed.getD j true=true→(listed.setIfInBounds i true).getD j true=true:=fun j h=>by
          by_cases e:j=i
          · subst e;rw [hun] at h;cases h
          · rw [getD_set_ne true (Ne.symm e)];exact h
        have hselfi:(listed.setIfInBounds i true).getD i true=true:=by
          simp [Array.getD,hI.sz,hin]
        refine ih (k+1) _ _ ⟨?_,?_,?_,?_,by simp [hI.sz],fun j hj h=> ?_⟩ ?_ (by omega)
        · have e2:cm * ((k+1:Nat):Int)=cm * (k:Int)+cm:=by rw [Int.natCast_add,Int.mul_add];simp
          cases hd:o.dst with
          | none=>exact ⟨env,O',mask,a',s',rfl,hc',by omega,by omega⟩
          | some d=>exact ⟨(d,v)::env,O',mask,a',s',rfl,hc',by omega,by omega⟩
        · rw [hstO]
          refine h0 O O' _ _ hko (fun x hx=>hget x (fun hd=>(hslot x hd).1 hx)) hI.t0
        · intro j hj h
          rw [hstO];rcases hlist j h with rfl | h2
          · exact hT'
          · have hne:j≠i:=fun e=>by rw [e,hun] at h2;cases h2
            have hna:i ∉ c08 rg j:=fun m=>by
              have:=hI.cl j hj h2 i m;rw [hun] at this;cases this
            exact (hT j hj).1 O O' _ _ hko (fun x hx=>hget x (fun hd=>(hslot x hd).2 j (hT j hj).2 hne hna hx)) (hI.ts j hj h2)
        · intro j hj h x hx
          rcases hlist j h with rfl | h
          · have hxn:x < rg.size:=by
              have:=qlf.1 (qlf.1 r1 j (qmb.2 hin)) x hx;have:x < j:=by simpa using this
              omega
            have:=haft x hx;rw [d18 (by rw [hI.sz];exact hxn)] at this;exact hself x this
          · exact hself x (hI.cl j hj h x hx)
        · rcases hlist j h with rfl | h
          · exact hiS
          · exact hI.only j hj h
        · have key:∀(l:List Nat),l.Nodup→i∈l→(l.filter fun j=> !(listed.setIfInBounds i true).getD j true).length+1=(l.filter fun j=> !listed.getD j true).length:=by
            intro l
            induction l with
            | nil=>intro _ h;cases h
            | cons x l ihl=>
              intro hnd hm;rw [List.nodup_cons] at hnd
              by_cases e:x=i
              · subst e
                have e1:(l.filter fun j=> !(listed.setIfInBounds x true).getD j true)=l.filter fun j=> !listed.getD j true:=
                  List.filter_congr fun j hj=>by rw [getD_set_ne true (fun q:x=j=>hnd.1 (q ▸ hj))]
                rw [List.filter_cons,List.filter_cons,hselfi,hun,e1];simp
              · have hm':i∈l:=by
                  rcases qlt.1 hm with q | q
                  · exact absurd q.symm e
                  · exact q
                have q:=ihl hnd.2 hm';rw [List.filter_cons,List.filter_cons,getD_set_ne true (Ne.symm e)];split
                · simp only [List.length_cons];omega
                · exact q
          have:=key S hnd hiS;omega
end
end Go.Vm
namespace Go.Vm
open Go
def b8w:TyG:=fun _ _=>True
theorem f7s {dl:List Nat}:f1y b8w dl:=fun _ _ _ _ _ _ _=>trivial
def c9u:List TyG→List (List Nat)→Prop
  | T::l,d::ds=>f1y T d∧c9u l ds
  | [],[]=>True
  | _,_=>False
theorem c9u.get:∀{l:List TyG} {ds:List (List Nat)},c9u l ds→∀j,j < l.length→f1y (l.getD j b8w) (ds.getD j [])∧j < ds.length
  | T::l,d::ds,h,0,_=>⟨h.1,by simp⟩
  | T::l,d::ds,h,j+1,hj=>by
    have:=c9u.get h.2 j (by simpa using hj);exact ⟨this.1,by simpa using this.2⟩
  | [],[],_,j,hj=>by simp at hj
  | [],_::_,h,_,_=>h.elim
  | _::_,[],h,_,_=>h.elim
section
variable {P:Program} {L:b4u} {rg:Array Oper} {K:St→Prop} {cv:Int→Int→Blk} {n:Nat} {a0 cm:Int} {T0:TyG} {TL:List TyG}
def c3k (P:Program) (L:b4u) (rg:Array Oper) (cv:Int→Int→Blk) (n:Nat) (a0 cm:Int) (T0:TyG) (TL:List TyG):List Nat→Prop
  | []=>True
  | i::l=>(∀o,rg[i]? =some o→f9k P L rg cv n a0 cm T0 (fun j=>TL.getD j b8w) i o)∧c3k P L rg cv n a0 cm T0 TL l
theorem c3k.get:∀{l:List Nat},c3k P L rg cv n a0 cm T0 TL l→∀i∈l,∀o,rg[i]? =some o→f9k P L rg cv n a0 cm T0 (fun j=>TL.getD j b8w) i o
  | x::l,h,i,hi,o,ho=>by
    rcases qlt.1 hi with rfl | hi
    · exact h.1 o ho
    · exact h.2.get i hi o ho
theorem b8c:c3k P L rg cv n a0 cm T0 TL []:=trivial
theorem b0o (N:Nat) {i:Nat} {oi:Oper} {rest:List Oper} {l:List Nat} (h:∀env O mask a s,O[0]? =some (cv a s)→(a0≤a∧a≤a0+cm * (N:Int))→T0 O (fun x=>look x env)→(∀j,(c08 rg i).contains j=true→TL.getD j b8w O (fun x=>look x env))→
    ∀K':St→Prop,(∀s,d1q cv n env mask O a cm oi.dst (TL.getD i b8w) s→K' s)→b0w P L rg oi ⟨env,O,false,n,mask⟩ K') (t:c3k P L rg cv n a0 cm T0 TL l) (hi:rg.toList.drop i=oi::rest:=by rfl) (hN:rg.size=N:=by rfl):c3k P L rg cv n a0 cm T0 TL (i::l):=
  ⟨fun o ho=>by
    subst hN;rw [c6k hi] at ho;cases ho;exact fun env O mask a s h1 h2 h3 h4 K' k=>.inl (h env O mask a s h1 h2 h3 (fun j hj=>h4 j (qmd.1 hj)) K' k),t⟩
theorem b8k (N:Nat) {i j:Nat} {want:Bool} {oi:Oper} {rest:List Oper} {l:List Nat} (h:∀env O mask a s,O[0]? =some (cv a s)→(a0≤a∧a≤a0+cm * (N:Int))→T0 O (fun x=>look x env)→(∀j,(c08 rg i).contains j=true→TL.getD j b8w O (fun x=>look x env))→
    b04 ⟨env,O,false,n,mask⟩ rg j want=some true∧∀K':St→Prop,(∀s,d1q cv n env mask O a cm oi.dst (TL.getD i b8w) s→K' s)→b07 P L ⟨env,O,false,n,mask⟩ oi fun v s'=>K' (s'.set oi.dst (.opt true v))) (t:c3k P L rg cv n a0 cm T0 TL l) (hi:rg.toList.drop i=oi::rest:=by rfl) (hN:rg.size=N:=by rfl) (hg:oi.guard=some (j,want):=by rfl) (hd:c3j oi.dst n:=by exact ql7 rfl):c3k P L rg cv n a0 cm T0 TL (i::l):=
  ⟨fun o ho=>by
    subst hN;rw [c6k hi] at ho;cases ho;exact fun env O mask a s h1 h2 h3 h4 K' k=>let q:=h env O mask a s h1 h2 h3 fun j hj=>h4 j (qmd.1 hj);.inr ⟨hd,j,want,true,hg,q.1,fun _=>q.2 K' k,nofun⟩,t⟩
theorem b8j (N:Nat) {i j d:Nat} {want:Bool} {oi:Oper} {rest:List Oper} {l:List Nat} (h:∀env O mask a s,O[0]? =some (cv a s)→(a0≤a∧a≤a0+cm * (N:Int))→T0 O (fun x=>look x env)→(∀j,(c08 rg i).contains j=true→TL.getD j b8w O (fun x=>look x env))→
    b04 ⟨env,O,false,n,mask⟩ rg j want=some false∧d1q cv n env mask O a cm (some d) (TL.getD i b8w) ⟨(d,.opt false .any)::env,O,false,n,mask⟩) (t:c3k P L rg cv n a0 cm T0 TL l) (hi:rg.toList.drop i=oi::rest:=by rfl) (hN:rg.size=N:=by rfl) (hg:oi.guard=some (j,want):=by rfl) (hdd:oi.dst=some d:=by rfl) (hd:c3j (some d) n:=by exact ql7 rfl):c3k P L rg cv n a0 cm T0 TL (i::l):=
  ⟨fun o ho=>by
    subst hN;rw [c6k hi] at ho;cases ho;exact fun env O mask a s h1 h2 h3 h4 K' k=>let q:=h env O mask a s h1 h2 h3 fun j hj=>h4 j (qmd.1 hj);.inr ⟨by rw [hdd];exact hd,j,want,false,hg,q.1,nofun,fun _=>⟨.any,by rw [hdd] at k⊢;exact k _ q.2⟩⟩,t⟩
theorem d1v {m:Nat} {Q:AEx→St→Prop} {id:Nat} {env:List (Nat×V)} {O:List Blk} {mask:Nat} {a s:Int} (N:Nat) (cv:Int→Int→Blk) (cm:Int) (S Rq D0:List Nat) (Dp:List (List Nat)) (T0:TyG) (TL:List TyG)
    (hc:O[0]? =some (cv a s)) (h0:f1y T0 D0) (hT:c9u TL Dp) (hs:T0 O (fun x=>look x env)) (ops:c3k P L rg cv n a cm T0 TL S)
    (tail:∀K:St→Prop,(∀s t,EqS s t→K s→K t)→(∀s,Q .normal s→K s)→∀u (listed:Array Bool) env O mask a' s',listed.size=rg.size→(∀j,j < rg.size→listed.getD j true=true→j∈S)→(∀j∈Rq,listed.getD j true=true)→(S.filter fun j=> !listed.getD j true).length=u→
      O[0]? =some (cv a' s')→(a≤a'∧a'≤a+cm * (N:Int))→T0 O (fun x=>look x env)→(∀j∈S,listed.getD j true=true→TL.getD j b8w O (fun x=>look x env))→
      b1r P L rg K (rg.size - S.length+u) listed ⟨env,O,false,n,mask⟩)
    (hm:P.follows .mixedOrders=true) (hreg:d53 rg S Rq D0 Dp=true) (hnd:S.Nodup) (hcm:0≤cm) (hl:S.all (Nat.blt · TL.length)=true) (hle:S.length≤N) (hN:rg.size=N) :
    awp P L m (.region id rg true) Q ⟨env,O,false,n,mask⟩:=by
  subst hN;refine b1f hm fun K hK hk=> ?_
  have lt:∀j∈S,j < rg.size:=fun j hj=>by
    simp only [d53,Bool.and_eq_true] at hreg;have:=qlf.1 hreg.2 j hj;rw [qld] at this;simpa using this.1
  have hno:∀j,j < rg.size→(Array.replicate rg.size false).getD j true=false:=fun j hj=>by simp [Array.getD,hj]
  have key:=f0c (P:=P) (L:=L) (rg:=rg) (K:=K) (cv:=cv) (n:=n) (a0:=a) (cm:=cm) S Rq D0 Dp (T0:=T0) (Ts:=fun j=>TL.getD j b8w) hreg hnd hcm h0
    (fun j hj=>hT.get j (by have:=qlf.1 hl j hj;simpa using this)) ops.get (fun u listed env O mask a' s' g1 g2 g3 g4 h1 h2 h3 h4=>tail K hK hk u listed env O mask a' s' g1 g2 g3 g4 h1 h2 h3 h4) S.length 0 (Array.replicate rg.size false) ⟨env,O,false,n,mask⟩
    ⟨⟨env,O,mask,a,s,rfl,hc,Int.le_refl _,by simp⟩,hs,fun j hj h=>by rw [hno j (lt j hj)] at h;(cases h),fun j hj h=>by rw [hno j (lt j hj)] at h;(cases h),by simp,fun j hj h=>by rw [hno j hj] at h;(cases h)⟩
    (by rw [List.filter_eq_self.2 (fun j hj=>by rw [hno j (lt j hj)];rfl)]) (by omega)
  rw [Nat.sub_add_cancel hle] at key;exact key
theorem b8o {N:Nat} {listed:Array Bool} {S:List Nat} (hsz:listed.size=N) (ho:∀j,j < N→listed.getD j true=true→j∈S) (hall:∀j∈S,listed.getD j true=true):listed=((List.range N).map fun j=>S.contains j).toArray:=by
  apply Array.ext
  · simp [hsz]
  · intro j h1 h2
    have hj:j < N:=by rw [←hsz];exact h1
    have e1:listed.getD j true=listed[j]:=by simp [Array.getD,h1]
    simp only [List.getElem_toArray,List.getElem_map,List.getElem_range];rw [←e1];cases q:listed.getD j true with
    | true=>exact (by simpa using ho j hj q)
    | false=>
      by_cases m:j∈S
      · rw [hall j m] at q;cases q
      · simp [m]
theorem c2j {m:Nat} {Q:AEx→St→Prop} {id:Nat} {env:List (Nat×V)} {O:List Blk} {mask:Nat} {a s:Int} (N:Nat) (cv:Int→Int→Blk) (cm:Int) (S D0:List Nat) (Dp:List (List Nat)) (T0:TyG) (TL:List TyG)
    (hc:O[0]? =some (cv a s)) (h0:f1y T0 D0) (hT:c9u TL Dp) (hs:T0 O (fun x=>look x env)) (ops:c3k P L rg cv n a cm T0 TL S)
    (tail:∀K:St→Prop,(∀s t,EqS s t→K s→K t)→(∀s,Q .normal s→K s)→∀env O mask a' s',O[0]? =some (cv a' s')→(a≤a'∧a'≤a+cm * (N:Int))→T0 O (fun x=>look x env)→(∀j,S.contains j=true→TL.getD j b8w O (fun x=>look x env))→
      b1r P L rg K (N - S.length) ((List.range N).map fun j=>S.contains j).toArray ⟨env,O,false,n,mask⟩)
    (hm:P.follows .mixedOrders=true:=by kernel_rfl) (hreg:d53 rg S S D0 Dp=true:=by kernel_rfl) (hnd:S.Nodup:=by decide) (hcm:0≤cm:=by decide) (hl:S.all (Nat.blt · TL.length)=true:=by rfl) (hle:S.length≤N:=by decide) (hN:rg.size=N:=by rfl) :
    awp P L m (.region id rg true) Q ⟨env,O,false,n,mask⟩:=by
  refine d1v N cv cm S S D0 Dp T0 TL hc h0 hT hs ops (fun K hK hk u listed env O mask a' s' g1 g2 g3 g4 h1 h2 h3 h4=> ?_) hm hreg hnd hcm hl hle hN;have e:=b8o g1 g2 g3;have e0:u=0:=by
    rw [←g4,qlv,List.filter_eq_nil_iff];intro j hj;simp [g3 j hj]
  subst e0;rw [hN] at e⊢;rw [e];exact tail K hK hk env O mask a' s' h1 h2 h3 fun j hj=>h4 j (qmd.1 hj) (g3 j (qmd.1 hj))
theorem d2f {m:Nat} {Q:AEx→St→Prop} {id:Nat} {env:List (Nat×V)} {O:List Blk} {mask:Nat} {a s:Int} (N:Nat) (cv:Int→Int→Blk) (cm:Int) (f:Nat) (S D0:List Nat) (Dp:List (List Nat)) (T0:TyG) (TL:List TyG)
    (hc:O[0]? =some (cv a s)) (h0:f1y T0 D0) (hT:c9u TL Dp) (hs:T0 O (fun x=>look x env)) (ops:c3k P L rg cv n a cm T0 TL (f::S))
    (tail:∀K:St→Prop,(∀s t,EqS s t→K s→K t)→(∀s,Q .normal s→K s)→∀env O mask a' s',O[0]? =some (cv a' s')→(a≤a'∧a'≤a+cm * (N:Int))→T0 O (fun x=>look x env)→(∀j,S.contains j=true→TL.getD j b8w O (fun x=>look x env))→
      (TL.getD f b8w O (fun x=>look x env)→b1r P L rg K (N - (S.length+1)) ((List.range N).map fun j=>(f::S).contains j).toArray ⟨env,O,false,n,mask⟩)∧b1r P L rg K (N - (S.length+1)+1) ((List.range N).map fun j=>S.contains j).toArray ⟨env,O,false,n,mask⟩)
    (hm:P.follows .mixedOrders=true:=by kernel_rfl) (hreg:d53 rg (f::S) S D0 Dp=true:=by kernel_rfl) (hnd:(f::S).Nodup:=by decide) (hcm:0≤cm:=by decide) (hl:(f::S).all (Nat.blt · TL.length)=true:=by rfl) (hle:(f::S).length≤N:=by decide) (hN:rg.size=N:=by rfl) :
    awp P L m (.region id rg true) Q ⟨env,O,false,n,mask⟩:=by
  refine d1v N cv cm (f::S) S D0 Dp T0 TL hc h0 hT hs ops (fun K hK hk u listed env O mask a' s' g1 g2 g3 g4 h1 h2 h3 h4=> ?_) hm hreg hnd hcm hl hle hN;have ht:=tail K hK hk env O mask a' s' h1 h2 h3 fun j hj=>h4 j (qll _ (qmd.1 hj)) (g3 j (qmd.1 hj))
  have hS:(S.filter fun j=> !listed.getD j true)=[]:=by
    rw [List.filter_eq_nil_iff];intro j hj;simp [g3 j hj]
  rw [hN] at g1 g2⊢;rw [List.filter_cons,hS] at g4;cases q:listed.getD f true with
  | true=>
    rw [q] at g4;have e0:u=0:=by rw [←g4];rfl
    subst e0;rw [b8o g1 g2 fun j hj=>by
      rcases qlt.1 hj with rfl | hj
      · exact q
      · exact g3 j hj]
    exact ht.1 (h4 f (qlh ..) q)
  | false=>
    rw [q] at g4;have e0:u=1:=by rw [←g4];rfl
    subst e0;rw [b8o g1 (fun j hj hlx=>by
      rcases qlt.1 (g2 j hj hlx) with e | hj
      · rw [e,q] at hlx;cases hlx
      · exact hj) g3]
    exact ht.2
theorem b12 {env:List (Nat×V)} {mask:Nat} {O:List Blk} {a s cm:Int} {d:Nat} {v:V} {T:TyG} (hc:O[0]? =some (cv a s)) (hcm:0≤cm) (h:T O (fun x=>look x ((d,v)::env))):d1q cv n env mask O a cm (some d) T ⟨(d,v)::env,O,false,n,mask⟩:=
  ⟨v,O,a,s,rfl,c2n.refl _,hc,Int.le_refl _,by omega,h⟩
theorem c0p {env:List (Nat×V)} {mask:Nat} {O new:List Blk} {a s cm:Int} {d:Nat} {v:V} {T:TyG} (hc:O[0]? =some (cv a s)) (hcm:0≤cm) (h:T (O++new) (fun x=>look x ((d,v)::env))):d1q cv n env mask O a cm (some d) T ⟨(d,v)::env,O++new,false,n,mask⟩:=
  ⟨v,O++new,a,s,rfl,c2n.app,Grow.app O new 0 _ hc,Int.le_refl _,by omega,h⟩
theorem f9r {O:List Blk} {b c:Blk} (hc:O[0]? =some b):(O.set 0 c)[0]? =some c:=by
  rw [qlo (qlc.1 hc).1]
theorem c49 {env:List (Nat×V)} {mask:Nat} {O:List Blk} {a s a' s' cm:Int} {d:Nat} {v:V} {T:TyG} (hc:O[0]? =some (cv a s)) (hb:a≤a'∧a'≤a+cm) (h:T (O.set 0 (cv a' s')) (fun x=>look x ((d,v)::env))):d1q cv n env mask O a cm (some d) T ⟨(d,v)::env,O.set 0 (cv a' s'),false,n,mask⟩:=
  ⟨v,_,a',s',rfl,by have:=c2n.set0 (O:=O) (new:=[]) (b:=cv a' s');simpa using this,f9r hc,hb.1,hb.2,h⟩
theorem f8m {env:List (Nat×V)} {mask:Nat} {O new:List Blk} {a s a' s' cm:Int} {d:Nat} {v:V} {T:TyG} (hc:O[0]? =some (cv a s)) (hb:a≤a'∧a'≤a+cm) (h:T (O.set 0 (cv a' s')++new) (fun x=>look x ((d,v)::env))):d1q cv n env mask O a cm (some d) T ⟨(d,v)::env,O.set 0 (cv a' s')++new,false,n,mask⟩:=
  ⟨v,_,a',s',rfl,c2n.set0,Grow.app _ new 0 _ (f9r hc),hb.1,hb.2,h⟩
theorem f4p {env:List (Nat×V)} {mask:Nat} {O:List Blk} {a s a' s' cm:Int} {d i:Nat} {b:Blk} {v:V} {T:TyG} (hc:O[0]? =some (cv a s)) (hi:O[i]? =some b) (hn:i≠0) (hb:a≤a'∧a'≤a+cm) (h:T ((O.set 0 (cv a' s')).set i b) (fun x=>look x ((d,v)::env))):d1q cv n env mask O a cm (some d) T ⟨(d,v)::env,(O.set 0 (cv a' s')).set i b,false,n,mask⟩:=
  ⟨v,_,a',s',rfl,by have:=c2n.set1 (O:=O) (new:=[]) (b:=cv a' s') hi;simpa using this,by rw [qlg hn];exact f9r hc,hb.1,hb.2,h⟩
end
mutual
theorem d65 {f g:Nat→Nat}:∀v:V,(v.ren f).ren g=v.ren (fun i=>g (f i))
  | .int _ _ | .bool _ | .str _ | .nsl | .sl _ | .pv _ _ _ | .npt | .nfn | .any | .ref _ | .sub _ _ _ | .ptr _ _ _=>by simp only [V.ren]
  | .fn _ cs=>by simp only [V.ren,c3a cs]
  | .agg cs=>by simp only [V.ren,c3a cs]
  | .tup cs=>by simp only [V.ren,c3a cs]
  | .opt _ v=>by simp only [V.ren,d65 v]
theorem c3a {f g:Nat→Nat}:∀l:List V,V.renL g (V.renL f l)=V.renL (fun i=>g (f i)) l
  | []=>by simp only [V.renL]
  | v::l=>by simp only [V.renL,d65 v,c3a l]
end
mutual
theorem c6s {f:Nat→Nat} {p q:Nat→Bool} (h:∀i,p i=true→q (f i)=true):∀v:V,v.only p=true→(v.ren f).only q=true
  | .int _ _,_ | .bool _,_ | .str _,_ | .nsl,_ | .sl _,_ | .pv _ _ _,_ | .npt,_ | .nfn,_ | .any,_=>by simp [V.ren,V.only]
  | .ref i,hp | .sub i _ _,hp | .ptr i _ _,hp=>by rw [V.only] at hp;rw [V.ren,V.only];exact h i hp
  | .fn _ cs,hp | .agg cs,hp | .tup cs,hp=>by rw [V.only] at hp;rw [V.ren,V.only];exact c7a h cs hp
  | .opt _ v,hp=>by rw [V.only] at hp;rw [V.ren,V.only];exact c6s h v hp
theorem c7a {f:Nat→Nat} {p q:Nat→Bool} (h:∀i,p i=true→q (f i)=true):∀l:List V,V.onlyL p l=true→V.onlyL q (V.renL f l)=true
  | [],_=>by simp only [V.renL,V.onlyL]
  | v::l,hp=>by
    rw [V.onlyL,qld] at hp;rw [V.renL,V.onlyL,c6s h v hp.1,c7a h l hp.2];rfl
end
def b8t (ρ:Nat→Nat) (O:List Blk):List Nat→List Blk→Prop
  | i::is,b::bs=>O[i]? =some (b.renM ρ)∧b8t ρ O is bs
  | [],[]=>True
  | _,_=>False
theorem b8t.get {ρ:Nat→Nat} {O:List Blk}:∀{is:List Nat} {bs:List Blk},b8t ρ O is bs→∀j b,bs[j]? =some b→O[is.getD j 0]? =some (b.renM ρ)
  | i::is,b::bs,h,0,c,e=>by simp at e;subst e;exact h.1
  | i::is,b::bs,h,j+1,c,e=>by
    have:=b8t.get h.2 j c (by simpa using e);simpa using this
  | [],[],_,j,c,e=>by simp at e
  | _::_,[],h,_,_,_=>h.elim
  | [],_::_,h,_,_,_=>h.elim
theorem f3v {m:Nat} {s:St} {x:Nat}:b6j m s {s with mask:=x}:=fun _ _ _ μ ow _ h=>⟨μ,ow,h.dfr,h.sz,h.env,h.blk,h.dom,h.owl,h.own,h.frm,h.mu⟩
theorem b45 {m n mask mask':Nat} {vw:Bool} {env:List (Nat×V)} {O:List Blk} (env':List (Nat×V)) (O':List Blk) (ids:List Nat) (hn:ids.Nodup) (hm:∀j,j < m→ids[j]? =some j) (hl:O'.length=ids.length)
    (he:∀p∈env',look p.1 env=p.2.ren (fun j=>ids.getD j 0)) (hk:(env'.map (·.1)).Nodup) (ho:∀p∈env',p.2.only (Nat.blt · ids.length)=true)
    (hba:b8t (fun j=>ids.getD j 0) O ids O') (hbo:∀b∈O',b.onlyM (Nat.blt · ids.length)=true):b6j m ⟨env,O,vw,n,mask⟩ ⟨env',O',vw,n,mask'⟩:=by
  refine b00 ?_ (f3v (s:=⟨env',O',vw,n,mask⟩));have hb:=hba.get;have inv:∀j,Nat.blt j ids.length=true→(idx ids (ids.getD j 0)).getD 0=j∧(idx ids (ids.getD j 0)).isSome=true:=fun j hj=>by
    have hj':j < ids.length:=by simpa using hj
    have e:ids[j]? =some (ids.getD j 0):=by simp [List.getD_eq_getElem?_getD,hj']
    rw [c4q hn e];exact ⟨rfl,rfl⟩
  have back:∀v:V,v.only (Nat.blt · ids.length)=true→(v.ren fun j=>ids.getD j 0).ren (fun id=>(idx ids id).getD 0)=v:=fun v hv=>by
    rw [d65];exact b7w (fun j hj=>(inv j hj).1) hv
  have backL:∀l:List V,V.onlyL (Nat.blt · ids.length) l=true→V.renL (fun id=>(idx ids id).getD 0) (V.renL (fun j=>ids.getD j 0) l)=l:=fun l hv=>by
    rw [c3a];exact c0s (fun j hj=>(inv j hj).1) hv
  have hO:∀id∈ids,∃j b,ids.getD j 0=id∧O'[j]? =some b∧O[id]? =some (b.renM fun j=>ids.getD j 0):=fun id hid=>by
    obtain ⟨j,hj,e⟩:=List.getElem_of_mem hid;have ej:ids.getD j 0=id:=by simp [List.getD_eq_getElem?_getD,hj,e]
    have hb':=hb j O'[j] (qla (by omega));exact ⟨j,_,ej,qla (by omega),by rw [←ej];exact hb'⟩
  refine c11 (env'.map (·.1)) ids hn hm (fun p hp=> ?_) (fun id hid bk e=> ?_) ?_
  · simp only [St.keep,List.mem_map] at hp
    obtain ⟨x,⟨q,hq,rfl⟩,rfl⟩:=hp;show (look q.1 env).only _=true;rw [he q hq];exact c6s (fun j hj=>(inv j hj).2) _ (ho q hq)
  · obtain ⟨j,b,e1,e2,e3⟩:=hO id hid
    rw [show O[id]? =some bk from e] at e3;obtain rfl:=Option.some.inj e3;have hbb:=hbo b (qlb e2);cases b with
    | dead=>rfl
    | arr xs k=>
      simp only [Blk.renM,Blk.onlyM,Bool.or_eq_true,Bool.not_eq_true'] at hbb⊢;rcases hbb with q | q
      · exact .inl q
      · cases hk:k.isMix with
        | false=>exact .inl rfl
        | true=>exact .inr (c7a (fun j hj=>(inv j hj).2) _ q)
    | box x k=>
      simp only [Blk.renM,Blk.onlyM,Bool.or_eq_true,Bool.not_eq_true'] at hbb⊢;rcases hbb with q | q
      · exact .inl q
      · cases hk:k.isMix with
        | false=>exact .inl rfl
        | true=>exact .inr (c6s (fun j hj=>(inv j hj).2) _ q)
  · have h1 : ((env'.map (·.1)).map fun t=>(t,look t env)).map (fun p=>(p.1,p.2.ren fun id=>(idx ids id).getD 0))=env':=by
      rw [List.map_map,List.map_map];refine (List.map_congr_left fun p hp=> ?_).trans (List.map_id env');show (p.1,(look p.1 env).ren _)=p;rw [he p hp,back _ (ho p hp)]
    have h2 : (ids.map fun id=>(O.getD id .dead).renM fun id=>(idx ids id).getD 0)=O':=by
      apply List.ext_getElem?;intro j;rw [List.getElem?_map];rcases qmf j ids.length with hj | hj
      · have e2:O'[j]? =some O'[j]:=qla (by omega)
        have hb':=hb j _ e2;have e:ids[j]? =some (ids.getD j 0):=by simp [List.getD_eq_getElem?_getD,hj]
        rw [e,e2,Option.map_some,qlm,hb'];have hbb:=hbo O'[j] (List.getElem_mem (by omega))
        congr 1
        generalize O'[j]=b at hbb;cases b with
        | dead=>rfl
        | arr xs k=>
          simp only [Option.getD_some,Blk.renM,Blk.onlyM,Bool.or_eq_true,Bool.not_eq_true'] at hbb⊢;cases hk:k.isMix with
          | false=>rfl
          | true=>
            rcases hbb with q | q
            · rw [hk] at q;cases q
            · simp only [cond_true];rw [backL _ q]
        | box x k=>
          simp only [Option.getD_some,Blk.renM,Blk.onlyM,Bool.or_eq_true,Bool.not_eq_true'] at hbb⊢;cases hk:k.isMix with
          | false=>rfl
          | true=>
            rcases hbb with q | q
            · rw [hk] at q;cases q
            · simp only [cond_true];rw [back _ q]
      · rw [List.getElem?_eq_none hj,List.getElem?_eq_none (by omega)];rfl
    have e:∀(a a':List (Nat×V)) (b b':List Blk),a=a'→b=b'→(⟨a,b,vw,n,mask⟩:St)=⟨a',b',vw,n,mask⟩:=by intros;subst_vars;rfl
    exact e _ _ _ _ h1 h2
theorem new_at {O new:List Blk} {b:Blk} (k:Nat) (h:new[k]? =some b):(O++new)[O.length+k]? =some b:=by
  rw [qlq (by omega),Nat.add_sub_cancel_left];exact h
theorem b4n {O:List Blk} {b:Blk} {k:Nat} (h:O[k]? =some b):k+1≤O.length:=(qlc.1 h).1
theorem b3w {O:List Blk} {i j:Nat} {b c:Blk} (h1:O[i]? =some b) (h2:O[j]? =some c) (h:b≠c):i≠j:=fun e=>h (by rw [e,h2] at h1;exact (Option.some.inj h1).symm)
theorem d8k {a b:Nat} (h:a≠b):Nat.beq a b=false:=by
  cases q:Nat.beq a b with
  | false=>rfl
  | true=>exact absurd (Nat.eq_of_beq_eq_true q) h
end Go.Vm
namespace Go.Vm
open Go
theorem zPs {A B:Prop} (b:Ho B) (e:Ho B→A:=by
  intro b;refine b5p rfl rfl rfl ?_ ?_
  · first | rfl | (simp only [zV,b04,Nat.reduceEqDiff,reduceIte];done)
  simp only [zW,b0k,Nat.reduceEqDiff,reduceIte];exact b.h):A:=e b
theorem f1c {A B:Prop} (b:Ho B) (e:Ho B→A:=by
  intro b;refine f0y _ _ rfl (by first | rfl | (simp only [zV,b04,Nat.reduceEqDiff,reduceIte];done)) (ql7 rfl) ?_;intro K k;simp only [zE,b0w,b0s,b0k,Nat.reduceEqDiff,reduceIte,Nat.reduceLT,implies_true,forall_const,reduceCtorEq,V.ofValue,V.ofScalar,V.un,V.gd,b07,aop,b0v,Value.oneCell',List.all_cons,List.all_nil,Bool.and_self,‹Tys _›.h,‹Fc _›.h];repeat (refine b4b ?_)
  refine k _ ?_;clear k K;exact b.h):A:=e b
theorem d8l {A B:Prop} (b:Ho B) (e:Ho B→A:=by
  intro b;refine f0y _ _ rfl (by first | rfl | (simp only [zV,b04,Nat.reduceEqDiff,reduceIte];done)) (ql7 rfl) ?_;intro K k;simp only [zE,zL,zO,zN,b0w,b0s,b0k,Nat.reduceEqDiff,reduceIte,Nat.reduceLT,implies_true,forall_const,reduceCtorEq,V.ofValue,V.ofScalar,V.un,V.gd,b07,aop,b7q,b1n,Blk.row,b7r,Go.Vm.part,V.cells,V.noSl,V.noRef,Nat.reduceAdd,Nat.reduceLeDiff,Nat.reduceMul,b0v,Value.oneCell',List.all_cons,List.all_nil,‹Tys _›.h,‹Fc _›.h];repeat (refine b4b ?_)
  refine k _ ?_;clear k K;exact b.h):A:=e b
theorem c60 {A B:Prop} (b:Ho B) (e:Ho B→A:=by
  intro b;refine f0y _ _ rfl (by first | rfl | (simp only [zV,b04,Nat.reduceEqDiff,reduceIte];done)) (ql7 rfl) ?_;intro K k;simp only [zE,zL,zN,b0w,b0s,b0k,Nat.reduceEqDiff,reduceIte,Nat.reduceLT,implies_true,forall_const,reduceCtorEq,V.ofValue,V.ofScalar,V.un,V.gd,b07,aop,b3z,Nat.reduceAdd,Nat.reduceLeDiff,Nat.reduceMul,b0v,Value.oneCell',List.all_cons,List.all_nil,Bool.and_self,‹Tys _›.h,‹Fc _›.h];repeat (refine b4b ?_)
  refine k _ ?_;clear k K;exact b.h):A:=e b
theorem c83 {A B:Prop} (b:Ho B) (e:Ho B→A:=by
  intro b;refine f0y _ _ rfl (by first | rfl | (simp only [zV,b04,Nat.reduceEqDiff,reduceIte];done)) (ql7 rfl) ?_;intro K k;simp only [zE,zL,zN,b0w,b0s,b0k,Nat.reduceEqDiff,reduceIte,Nat.reduceLT,implies_true,forall_const,reduceCtorEq,V.ofValue,V.ofScalar,V.un,V.gd,b07,aop,List.mem_cons,List.not_mem_nil,or_false,forall_eq_or_imp,forall_eq,b3q,b1n,Blk.row,Go.Vm.V.cells,List.forall_mem_map,List.length_map,Int.toNat_natCast,Int.reduceToNat,TypeDesc.slice.injEq,Nat.reduceAdd,Nat.reduceLeDiff,Nat.reduceMul,b0v,Value.oneCell',List.all_cons,List.all_nil,Bool.and_self,‹Tys _›.h,‹Fc _›.h];repeat (refine b4b ?_)
  refine k _ ?_;clear k K;exact b.h):A:=e b
theorem ztc {C A B:Prop} (con:C) (b:Ho B) (e:C→Ho B→A:=by
  intro con b;refine f0y _ _ rfl (by first | rfl | (simp only [zV,b04,Nat.reduceEqDiff,reduceIte];done)) (ql7 rfl) ?_;intro K k;simp only [zE,zM,b0w,b0s,b0k,Nat.reduceEqDiff,reduceIte,Nat.reduceLT,implies_true,forall_const,reduceCtorEq,V.ofValue,V.ofScalar,V.un,V.gd,b07,b4i,b43,‹Tys _›.h,‹Fc _›.h];repeat (refine d5z ?_)
  refine b7c con (by first | rfl | (simp only [b1w,b3e,b1q,b1g,b2p,Option.map_some,idx,b1n,List.getElem?_cons_zero,List.getElem?_cons_succ,Option.bind_some,Blk.row,b05,b1s,b11,b10,b13,b14,cond_true,List.map_take];done) | (simp [b1w,b3e,b1q,b1g,b2p,idx,b1n,Blk.row,b05,b1s,b11,b10,b13,b14,Nat.beq_refl];done)) (by first | exact .inl ⟨rfl,by simp [Blk.kindIs,b5d,c0h]⟩ | exact .inr (by simp [V.cold])) ?_;refine k _ ?_;clear k K;simp only [zY,zW,b0k,Nat.reduceEqDiff,reduceIte,V.ren,V.renL,rho,Nat.reduceAdd];exact b.h):A:=e con b
theorem d15 {P:Program} {L:b4u} {s:St} {rg:Array Oper} {o:Oper} {j:Nat} {want G:Bool} {f:FuncId} {args args':List V} {bk:Blk} {R:V→List Blk→Prop} {X K:St→Prop} (k:∀s,X s→K s) (hc:b74 P f args' [bk] R) (hsame:∃r,R r [bk])
    (h:∀r O',R r O'→∃bk',O'=[bk']∧(r.clean=true∧r.only (fun _=>false)=true∧bk'.kindIs (fun k=>k.nm)=true∧(bk'.kindIs (fun k=>k != .shal && k.nm)=true∨∀x∈args,x.coldIn [0]=true))∧X (({s with O:=s.O.set 0 bk'}:St).set o.dst (.opt G r)))
    (hg:o.guard=some (j,want):=by rfl) (hv:b04 s rg j want=some G:=by first | rfl | (simp only [zV,b04,Nat.reduceEqDiff,reduceIte];done)) (hd:c3j o.dst s.n:=by exact ql7 rfl)
    (he:G=true→∀F:V→St→Prop,b9o P s f [0] args F→b07 P L s o F:=by
      intro hG F hF;simp only [zE,zM,b0w,b0s,b0k,Nat.reduceEqDiff,reduceIte,Nat.reduceLT,implies_true,forall_const,reduceCtorEq,V.ofValue,V.ofScalar,V.un,V.gd,b07,b4i,b43,‹Tys _›.h,‹Fc _›.h];first | exact hF | exact ⟨by simpa using hG,hF⟩ | (refine ⟨?_,hF⟩;simp_all;done))
    (ht:b1w s [0] args=some args':=by rfl) (hO:s.O[0]? =some bk:=by rfl) (hbk:bk.kindIs (fun k=>k.nm)=true∧bk≠.dead:=by exact ⟨by simp [Blk.kindIs,b05,b1s],by simp⟩) (hw:s.vw=false∨bk.kindIs (fun k=>k == .flat)=true:=by exact .inl rfl) :
    c3j o.dst s.n∧∃j want G,o.guard=some (j,want)∧b04 s rg j want=some G∧(G=true→b07 P L s o fun v s'=>K (s'.set o.dst (.opt true v)))∧(G=false→∃v,K (s.set o.dst (.opt false v))):=
  d2y j want hd hg hv (fun _=>hc) he hsame ht hO hbk hw fun r O' q=>(h r O' q).imp fun _ h=>⟨h.1,h.2.1,k _ h.2.2⟩
theorem zgx {P:Program} {f:FuncId} {args':List V} {bk:Blk} {R:V→List Blk→Prop} {A B:Prop} (con:b74 P f args' [bk] R) (same:∃r,R r [bk]) (b:Ho B) (e:b74 P f args' [bk] R→(∃r,R r [bk])→Ho B→A:=by
  intro con same b;refine f9q ?_;intro K k;exact d15 k con same b.h):A:=e con same b
theorem zEg {A B:Prop} (b:Ho B) (e:Ho B→A:=by
  intro b;refine ⟨_,rfl,⟨rfl,rfl,by simp [Blk.kindIs,b05,b1s],.inr (qlf.1 rfl)⟩,?_⟩;simp only [zW,b0k,Nat.reduceEqDiff,reduceIte,List.set_cons_zero,List.set_cons_succ];exact b.h):A:=e b
end Go.Vm
