/- The value machine, part 6. -/
import Derived.Test.YtmbbjhopngejaaaGreatUmE
set_option linter.all false
open List renaming map_congr_left → Za, mem_toArray → Zb, mem_map → Ze
open Go.Vm.V renaming only → Zc, onlyL → Zf, ren → Zi
open Go.Region renaming ready → Zd
open Go.Vm.Blk renaming kindIs → Zg
open Array renaming mem_append → Zh
namespace Go.Vm
open Go
theorem c3k {n:Int} (h:-9223372036854775808≤n) (h2:n≤9223372036854775807):IntKind.i64.wrap n=n:=by
  rw [IntKind.wrap_i64];omega
theorem b3u {α:Type} {f:α→V} {l:List α} {i:Nat} {x:α} (h:l[i]? =some x):(l.map f).getD i .any=f x:=by
  grind
theorem b0n (t:Nat):look t []=.any:=rfl
theorem b0f (t k:Nat) (v:V) (l:List (Nat×V)):look t ((k,v)::l)=if t=k then v else look t l:=by
  grind[look,Nat.beq,Nat.eq_of_beq_eq_true,Nat.beq_refl]
def St.keep (ks:List Nat) (s:St):St:={s with env:=ks.map fun t=>(t,s.get t)}
def d7h (env:List (Nat×V)):List Nat→List (Nat×V)
  | []=>[]
  | t::ks=>(t,look t env)::d7h env ks
theorem f7p (env:List (Nat×V)) (ks:List Nat):d7h env ks=ks.map fun t=>(t,look t env):=by
  induction ks with
  | nil=>rfl
  | cons t ks ih=>rw [d7h,ih];rfl
theorem b0r (ks:List Nat) (env:List (Nat×V)) (O:List Blk) (vw:Bool) (n m:Nat):St.keep ks ⟨env,O,vw,n,m⟩=⟨d7h env ks,O,vw,n,m⟩:=by
  rw [f7p];rfl
theorem b0k (env:List (Nat×V)):d7h env []=[]:=rfl
theorem b0i (env:List (Nat×V)) (t:Nat) (ks:List Nat):d7h env (t::ks)=(t,look t env)::d7h env ks:=rfl
theorem d8d (f:Nat→V):∀(ks:List Nat) (t:Nat),look t (ks.map fun t=>(t,f t))=f t∨look t (ks.map fun t=>(t,f t))=.any
  | [],_=>.inr rfl
  | k::ks,t=>by
    rw [qm5,b0f]
    by_cases e:t=k
    · grind
    · rw [if_neg e];exact d8d f ks t
theorem b2o (m:Nat) (s:St):b44 m s s:=fun _ _ _ _ _ _ h=>⟨_,_,h⟩
theorem b0m {m:Nat} {s t u} (h:b44 m s t) (k:b44 m t u):b44 m s u:=fun cx a w μ ow hm hr=>
  let ⟨_,_,h1⟩:=h cx a w μ ow hm hr
  k cx a w _ _ hm h1
theorem b0a {m:Nat} (ks:List Nat) (s:St):b44 m s (s.keep ks):=fun _ _ _ _ _ _ h=>
  ⟨_,_,h.forget (m:=s.mask) fun t=>d8d s.get ks t⟩
theorem b18 {m:Nat} {s s':St} (ks:List Nat) (e:s.keep ks=s'):b44 m s s':=e ▸ b0a ks s
theorem c3m (env:List (Nat×V)) (O:List Blk) (vw:Bool) (n m t:Nat):St.get ⟨env,O,vw,n,m⟩ t=look t env:=rfl
theorem b0j (env:List (Nat×V)) (O:List Blk) (vw:Bool) (n m t:Nat) (v:V):St.set ⟨env,O,vw,n,m⟩ (some t) v=⟨(t,v)::env,O,vw,n,m⟩:=rfl
theorem d8e (s:St) (v:V):St.set s none v=s:=rfl
theorem f8s (s:St) (t:Nat):s.ev (.tmp t)=s.get t:=rfl
theorem d8h (s:St) (v:Value):s.ev (.const v)=V.ofValue v:=rfl
theorem g3r (s:St) (f:Nat):s.ev (.func f)=.fn f []:=rfl
theorem b7x (t n:Nat):c44 (some t) n↔t < n:=Iff.rfl
theorem g41 (n:Nat):c44 none n↔True:=Iff.rfl
theorem b1k (env:List (Nat×V)) (O:List Blk) (vw:Bool) (n m id:Nat):St.row ⟨env,O,vw,n,m⟩ id=(O[id]?).bind Blk.row:=rfl
theorem f0u (n:Nat) (k:IntKind) (x:Int):settle n (.int k x)=(.int k x,[]):=rfl
theorem d7q (n:Nat) (x:Bool):settle n (.bool x)=(.bool x,[]):=rfl
theorem f1s (n:Nat) (x:ByteArray):settle n (.str x)=(.str x,[]):=rfl
theorem d92 (n:Nat):settle n .nsl=(.ref n,[.arr [] .flat]):=rfl
theorem g4c (n:Nat) (x:List V):settle n (.sl x)=(.sl x,[]):=rfl
theorem f1c (n id:Nat):settle n (.ref id)=(.ref id,[]):=rfl
theorem g21 (n id a b:Nat):settle n (.sub id a b)=(.sub id a b,[]):=rfl
theorem g3e (n id a b:Nat):settle n (.ptr id a b)=(.ptr id a b,[]):=rfl
theorem f2l (n:Nat) (xs:List V) (a b:Nat):settle n (.pv xs a b)=(.pv xs a b,[]):=rfl
theorem f0x (n:Nat) (xs:List V):settle n (.tup xs)=(.tup xs,[]):=rfl
theorem f3t (n f:Nat) (xs:List V):settle n (.fn f xs)=(.fn f xs,[]):=rfl
theorem f0m (n:Nat):settle n .npt=(.npt,[]):=rfl
theorem f1z (n:Nat) (xs:List V):settle n (.agg xs)=(.agg (b3d n xs).1,(b3d n xs).2):=rfl
theorem d6u (n:Nat):b3d n []=([],[]):=rfl
theorem d6o (n:Nat) (l:List V):b3d n (.nsl::l)=(.ref n::(b3d (n+1) l).1,.arr [] .flat::(b3d (n+1) l).2):=rfl
theorem d71 (n:Nat) (k:IntKind) (x:Int) (l:List V):b3d n (.int k x::l)=(.int k x::(b3d n l).1,(b3d n l).2):=rfl
theorem d4u (n:Nat) (x:Bool) (l:List V):b3d n (.bool x::l)=(.bool x::(b3d n l).1,(b3d n l).2):=rfl
theorem d7k (n:Nat) (x:ByteArray) (l:List V):b3d n (.str x::l)=(.str x::(b3d n l).1,(b3d n l).2):=rfl
theorem d93 (n:Nat) (x:List V) (l:List V):b3d n (.sl x::l)=(.sl x::(b3d n l).1,(b3d n l).2):=rfl
theorem d7j (n x:Nat) (l:List V):b3d n (.ref x::l)=(.ref x::(b3d n l).1,(b3d n l).2):=rfl
mutual
theorem b7a {p:Nat→Bool} {ρ:Nat→Nat} (hp:∀id,p id=true→ρ id=id):∀{v:V},v.only p=true→v.ren ρ=v
  | .int _ _,_ | .bool _,_ | .str _,_ | .nsl,_ | .sl _,_ | .pv _ _ _,_ | .npt,_ | .nfn,_ | .any,_=>by simp [Zi]
  | .ref id,h=>by rw [Zc] at h;rw [Zi,hp id h]
  | .sub id _ _,h=>by rw [Zc] at h;rw [Zi,hp id h]
  | .ptr id _ _,h=>by rw [Zc] at h;rw [Zi,hp id h]
  | .fn f cs,h=>by rw [Zc] at h;rw [Zi,c1n hp h]
  | .agg cs,h=>by rw [Zc] at h;rw [Zi,c1n hp h]
  | .tup cs,h=>by rw [Zc] at h;rw [Zi,c1n hp h]
  | .opt g v,h=>by rw [Zc] at h;rw [Zi,b7a hp h]
theorem c1n {p:Nat→Bool} {ρ:Nat→Nat} (hp:∀id,p id=true→ρ id=id):∀{vs:List V},Zf p vs=true→V.renL ρ vs=vs
  | [],_=>by rw [V.renL]
  | v::vs,h=>by rw [Zf,qlg] at h;rw [V.renL,b7a hp h.1,c1n hp h.2]
end
theorem refs1_only {v:V} (h:v.only (fun _=>false)=true):c1c v=[]:=by
  cases v<;>simp_all [c1c,Zc]
theorem c9b:∀{l:List V},Zf (fun _=>false) l=true→l.flatMap c1c=[]
  | [],_=>rfl
  | v::l,h=>by rw [Zf,qlg] at h;rw [ql2,refs1_only h.1,c9b h.2];rfl
theorem c5x {v:V} (h:v.only (fun _=>false)=true):b9z v=[]:=by
  cases v with
  | agg cs=>rw [Zc] at h;exact c9b h
  | _=>exact refs1_only h
theorem c9p:∀{l:List V},Zf (fun _=>false) l=true→l.flatMap b9z=[]
  | [],_=>rfl
  | v::l,h=>by rw [Zf,qlg] at h;rw [ql2,c5x h.1,c9p h.2];rfl
theorem c8y {v:V} (h:v.only (fun _=>false)=true):b5u v=[]:=by
  cases v with
  | tup cs=>rw [Zc] at h;exact c9p h
  | _=>exact c5x h
mutual
theorem b9w {p q:Nat→Bool} (hp:∀id,p id=true→q id=true):∀{v:V},v.only p=true→v.only q=true
  | .int _ _,_ | .bool _,_ | .str _,_ | .nsl,_ | .sl _,_ | .pv _ _ _,_ | .npt,_ | .nfn,_ | .any,_=>by simp [Zc]
  | .ref id,h=>by rw [Zc] at h⊢;exact hp id h
  | .sub id _ _,h=>by rw [Zc] at h⊢;exact hp id h
  | .ptr id _ _,h=>by rw [Zc] at h⊢;exact hp id h
  | .fn f cs,h=>by rw [Zc] at h⊢;exact c2t hp h
  | .agg cs,h=>by rw [Zc] at h⊢;exact c2t hp h
  | .tup cs,h=>by rw [Zc] at h⊢;exact c2t hp h
  | .opt g v,h=>by rw [Zc] at h⊢;exact b9w hp h
theorem c2t {p q:Nat→Bool} (hp:∀id,p id=true→q id=true):∀{vs:List V},Zf p vs=true→Zf q vs=true
  | [],_=>by rw [Zf]
  | v::vs,h=>by rw [Zf,qlg] at h⊢;exact ⟨b9w hp h.1,c2t hp h.2⟩
end
theorem d2o (ρ:Nat→Nat):∀(l:List (Nat×V)) (t:Nat),look t (l.map fun p=>(p.1,p.2.ren ρ))=(look t l).ren ρ
  | [],_=>by rfl
  | (k,v)::l,t=>by
    rw [qm5,b0f,b0f,d2o ρ l t];split<;>rfl
theorem c8x {p:Nat→Bool}:∀{l:List (Nat×V)},(∀q∈l,q.2.only p=true)→∀t,(look t l).only p=true
  | [],_,t=>by rfl
  | (k,v)::l,h,t=>by
    rw [b0f];split
    · simp_all
    · exact c8x (fun q hq=>h q (qlq _ hq)) t
def St.comp (ids:List Nat) (s:St):St:={s with env:=s.env.map fun p=>(p.1,p.2.ren fun id=>(idx ids id).getD 0),O:=ids.map fun id=>s.O.getD id .dead}
theorem g3w {m:Nat} {s:St} (ids:List Nat) (hn:ids.Nodup) (hm:∀j,j < m→ids[j]? =some j) (he:∀p∈s.env,p.2.only (fun id=>(idx ids id).isSome)=true)
    (hb:∀id∈ids,∀bk,s.O[id]? =some bk→bk.kindIs (fun k=>k.nm)=true):b44 m s (s.comp ids):=by
  intro cx a w μ ow hmu h;let ρ:Nat→Nat:=fun id=>(idx ids id).getD 0
  let μ':Nat→Option Loc:=fun j=>(ids[j]?).bind μ
  let ow':Ow:=fun b=>match ow b with
    | some (r,id)=>(idx ids id).map fun j=>(r,j)
    | none=>none
  have o0:∀b,ow b=none→ow' b=none:=fun b e=>by grind
  have o1:∀b id,ow b=some (false,id)→ow' b=none∨∃id',ow' b=some (false,id'):=fun b id e=>by
    cases q:idx ids id with
    | none=>grind
    | some j=>grind
  have oin:∀b r id j,ow b=some (r,id)→idx ids id=some j→ow' b=some (r,j):=fun b r id j e q=>by grind
  have one:∀b,ow' b≠none→ow b≠none:=fun b hb e=>hb (o0 b e)
  have hμ:∀id l,(idx ids id).isSome=true→μ id=some l→μ' (ρ id)=some l:=by
    intro id l hs e;obtain ⟨j,hj⟩:=qmi.1 hs;have:=b9b hj
    grind
  refine ⟨μ',ow',h.dfr,h.sz,fun t=> ?_,fun j bk e=> ?_,fun j hj=> ?_,fun b hb=>h.owl b (one b hb),fun b hb=>h.own b (one b hb),h.frm,fun id l e=> ?_⟩
  · obtain ⟨bl,r1,r2⟩:=h.env t
    show ∃bl,Rep w μ' (look t (s.env.map _)) _ bl∧_;rw [d2o];let μ2:Nat→Option Loc:=fun id=>if (idx ids id).isSome then μ id else none
    have r1':Rep w μ2 (look t s.env) (a.tmps.getD t undef) bl:=Rep.only (p:=fun id=>(idx ids id).isSome) (fun id l hp e=>by grind) r1 (c8x he t);refine ⟨bl,Rep.ren (ρ:=ρ) (fun id l e=> ?_) r1',fun b hb=>(r2 b hb).mono2 (o0 b) (o1 b)⟩
    grind
  · have e':(ids[j]?).map (fun id=>s.O.getD id .dead)=some bk:=by rw [←qma];exact e
    rw [Option.map_eq_some_iff] at e';obtain ⟨id,hid,hbk⟩:=e';have hix:idx ids id=some j:=c6n hn hid;cases hO:s.O[id]? with
    | none=>
      rw [qlo,hO] at hbk;simp only [Option.getD_none] at hbk;subst hbk;trivial
    | some bk'=>
      rw [qlo,hO] at hbk;simp only [Option.getD_some] at hbk;subst hbk;have hblk:=h.blk id bk' hO;have hbm:=hb id (qlb hid) bk' hO;have key:∀xs k,k.nm=true→b5g cx w μ ow s.vw id xs k→b5g cx w μ' ow' s.vw j xs k:=by
        intro xs k hk ⟨l,q1,q2,q3⟩;have q1':μ' j=some l:=by grind
        refine ⟨l,q1',q2,?_⟩;rcases q3 with q3 | ⟨q3,q4,bl2,q5,q6,q7⟩
        · grind
        · refine .inr ⟨q3,oin _ _ _ _ q4 hix,bl2,by grind[b5v],?_,q7⟩
          cases k with
          | flat | thin=>exact q6
          | deep=>exact ⟨q6.1,fun b hb=>oin _ _ _ _ (q6.2 b hb) hix⟩
          | shal=>exact fun b hb=>(q6 b hb).mono2 (o0 b) (o1 b)
          | mix | part=>simp_all
      cases bk' with
      | dead=>trivial
      | arr xs k=>exact key xs k (by grind[Zg]) hblk
      | box x k=>exact key [x] k (by grind[Zg]) hblk
  · grind[List.getElem?_eq_none,St.comp]
  · have hlt:id < m:=by
      grind
    have:=h.mu id l e
    grind
theorem b6c {m:Nat} {s s':St} (ks ids:List Nat) (hn:ids.Nodup) (hm:∀j,j < m→ids[j]? =some j) (he:∀p∈(s.keep ks).env,p.2.only (fun id=>(idx ids id).isSome)=true)
    (hb:∀id∈ids,∀bk,s.O[id]? =some bk→bk.kindIs (fun k=>k.nm)=true) (e:(s.keep ks).comp ids=s'):b44 m s s':=
  e ▸ b0m (b0a ks s) (g3w ids hn hm he hb)
section
variable {P:Program} {L:c4f} {m:Nat} {Q:AEx→St→Prop} {s:St}
theorem b0e {x y} (h:∀Q':AEx→St→Prop,(∀s s₁,b44 m s s₁→awp P L m y Q s₁→Q' .normal s)→(∀i s,Q (.exit i) s→Q' (.exit i) s)→(∀s,Q .ret s→Q' .ret s)→awp P L m x Q' s) :
    awp P L m (.seq x y) Q s:=
  h _ (fun _ s₁ hw h=>⟨s₁,hw,h⟩) (fun _ _ h=>h) (fun _ h=>h)
theorem b2u {id:Nat} {ops:Array Oper} (h:∀K:St→Prop,(∀s,Q .normal s→K s)→d3s P L ops K ops.toList s):awp P L m (.region id ops false) Q s:=
  h _ fun _ h=>h
theorem b0g {id:Nat} {x} (h:∀Q':AEx→St→Prop,(∀s,Q .normal s→Q' .normal s)→(∀s,Q .normal s→Q' (.exit id) s)→(∀i s,i≠id→Q (.exit i) s→Q' (.exit i) s)→(∀s,Q .ret s→Q' .ret s)→awp P L m x Q' s) :
    awp P L m (.block id x) Q s:=
  h _ (fun _ h=>h) (fun s h=>by grind) (fun i s hi h=>by grind) (fun _ h=>h)
theorem b2a {c:Operand} {x y} (b:Bool) (hc:s.ev c=.bool b) (h1:b=true→awp P L m x Q s) (h2:b=false→awp P L m y Q s):awp P L m (.cond c x y) Q s:=by
  grind[awp]
theorem b6m (h:Q .normal s):awp P L m .skip Q s:=h
theorem f8m {i:Nat} (h:Q (.exit i) s):awp P L m (.exit i) Q s:=h
theorem f9k (h:Q .ret s):awp P L m .ret Q s:=h
theorem b05 {α:Type} {x} (I:α→St) (ok:α→Prop) (mu:α→Nat) (a:α) (h0:b44 m s (I a)) (ha:ok a)
    (h:∀a,ok a→∀Q':AEx→St→Prop,(∀s b,b44 m s (I b)→ok b→mu b < mu a→Q' .normal s)→(∀i s,Q (.exit i) s→Q' (.exit i) s)→(∀s,Q .ret s→Q' .ret s)→awp P L m x Q' (I a)) :
    awp P L m (.loop x) Q s:=by
  have key:∀n,∀a,ok a→mu a < n→∀s,b44 m s (I a)→f6e m (awp P L m x) Q n s:=by
    intro n
    induction n with
    | zero=>simp
    | succ n ih=>
      intro a ha _ s hw;refine ⟨I a,hw,h a ha _ (fun s b hw hb hlt=>ih b hb (by omega) s hw) (fun _ _ h=>h) (fun _ h=>h)⟩
  exact ⟨mu a+1,key _ a ha (Nat.lt_succ_self _) s h0⟩
theorem b5y {rg K o rest} (h:∀K':St→Prop,(∀s,d3s P L rg K rest s→K' s)→b0x P L rg o s K'):d3s P L rg K (o::rest) s:=
  .inl (h _ fun _ h=>h)
theorem f4f {o:Oper} {rg K rest} (d:Nat) (j:Nat) (want:Bool) (hd:o.dst=some d) (hn:d < s.n) (hg:o.guard=some (j,want)) (hv:b01 s rg j want=some false) (h:d3s P L rg K rest (s.set (some d) (.opt false .any))):d3s P L rg K (o::rest) s:=
  .inr ⟨by rw [hd];exact hn,j,want,false,hg,hv,nofun,fun _=>⟨.any,by grind⟩⟩
theorem b7h {f:FuncId} {r:V} {K:V→St→Prop} {args args' O'} (hc:Con P f args' [] r O') (ht:b1u s [] args=some args')
    (hcl:(r.clean=true∧∀bk∈O',bk.kindIs (fun k=>k != .shal && k.nm)=true)∨(∀x∈args,x.cold=true)) (hk:K (r.ren (rho [] s.O.length)) {s with O:=s.O++O'}):b9g P s f [] args K:=
  d2f ht rfl List.nodup_nil (by simp) (.inr (by simp)) hc (hcl.imp id fun h x hx=>f9w (h x hx)) (by unfold b4p;grind)
theorem c3w {f:FuncId} {r:V} {K:V→Prop} {G A:Prop} {args args'} (hg:G→A) (hc:G→Con P f args' [] r []) (ht:b1u s [] args=some args')
    (hr:r.only (fun _=>false)=true) (hcl:r.clean=true) (hk:K r):∃r,(G→A∧b9g P s f [] args fun v s'=>v=r∧s'={s with O:=s.O++[]})∧K r:=
  ⟨r,fun g=>⟨hg g,b7h (hc g) ht (.inl ⟨hcl,by simp⟩) ⟨b7a (by simp) hr,rfl⟩⟩,hk⟩
end
theorem b0h {s:St} {v r:V} (hv:v.only (fun _=>false)=true) (e:v=r) (h:s.vw=false∨v.clean=true):b6b 0 s v r []:=by
  subst e;have hr:=c8y hv;refine ⟨⟨b9w (by simp) hv,by grind,qle _⟩,(b7a (by simp) hv).symm,by grind,by simp,?_⟩
  grind
theorem c2j {s:St} {m:Nat} {v:V} {r O'} (hv:v.only (fun _=>false)=true) (hm:m≤s.O.length) (e:v=r) (hO:s.O.take m=O') (hk:∀bk∈O',bk.kindIs (fun k=>k != .shal && k.nm)=true) (h:s.vw=false∨v.clean=true) :
    b6b m s v r O':=by
  subst e;have hr:=c8y hv;refine ⟨⟨b9w (by simp) hv,by grind,hm⟩,(b7a (by simp) hv).symm,by grind,fun bk hb=> ?_,h.imp id fun q=>⟨q,hk⟩⟩;have:=hk bk hb;cases bk with
  | dead=>rfl
  | arr xs k=>cases k<;>simp_all [Zg,Kd.nm]
  | box x k=>cases k<;>simp_all [Zg,Kd.nm]
theorem c0u {s:St} {k:Nat} {xs kd} (hO:s.O[k]? =some (.arr xs kd)) (hk:kd=.flat∨kd=.deep):b6b 0 s (.ref k) (.ref 0) [.arr xs kd]:=by
  have hf:(b5u (.ref k)).filter (fun id=>Nat.ble 0 id)=[k]:=by rfl
  unfold b6b;simp only [hf];refine ⟨⟨by simp [Zc,idx],by simp,qle _⟩,by simp [Zi,c1v,idx],by grind,?_,.inr ⟨by rfl,?_⟩⟩<;>rcases hk with rfl | rfl<;>simp [Zg]
theorem c0o {s:St} {k:Nat} {v:V} {xs kd} (hv:v.only (fun _=>false)=true) (hc:v.noSl=true) (hO:s.O[k]? =some (.arr xs kd)) (hk:kd=.flat∨kd=.deep) :
    b6b 0 s (.tup [.ref k,v]) (.tup [.ref 0,v]) [.arr xs kd]:=by
  have hr:b9z v=[]:=c5x hv;have hf:(b5u (.tup [.ref k,v])).filter (fun id=>Nat.ble 0 id)=[k]:=by
    show List.filter _ (b9z (.ref k)++(b9z v++[]))=[k]
    simp_all[b9z,c1c]
  unfold b6b;simp only [hf];refine ⟨⟨by simp [Zc,Zf,idx];grind[b9w],by simp,qle _⟩,by simp [Zi,V.renL,c1v,idx];grind[b7a],by grind,?_,.inr ⟨by show (V.noSl (.ref k) && (V.noSl v && true))=true;rw [hc];rfl,?_⟩⟩<;>rcases hk with rfl | rfl<;>simp [Zg]
def f8o {α:Type} (f:α→V) (z:V) (l:List α) (i:Nat):List V:=(l.take i).map f++List.replicate (l.length - i) z
theorem c8b {α:Type} {f:α→V} {z:V} {l:List α} {i n:Nat} (hf:∀a,(f a).cells.length=n) (hz:z.cells.length=n):∀x∈f8o f z l i,x.cells.length=n:=by
  intro x hx;rw [f8o,qll] at hx
  grind
def b1w (i:Nat):Kd:=if i=0 then .flat else .deep
theorem b4c (i:Nat):(b1w i != .shal && (b1w i).nm)=true:=by unfold b1w;split<;>rfl
theorem d17:b1w 0=.flat:=rfl
theorem b02 (i:Nat):(b1w i).nm=true:=by unfold b1w;split<;>rfl
def thK (n:Nat):Kd:=if n=0 then .thin else .deep
theorem b7i (i:Nat):(thK i != .shal && (thK i).nm)=true:=by unfold thK;split<;>rfl
theorem b1m (i:Nat):(thK i).nm=true:=by unfold thK;split<;>rfl
theorem c0h (i:Nat):b6p (b1w i) true false=some (b1w (i+1)):=by grind[b1w,b6p]
theorem b8w (i:Nat):b6p (b1w i) false false=some (b1w i):=by unfold b1w;split<;>rfl
theorem c1h:b6p .flat false false=some .flat:=rfl
theorem c86:b6p .flat true false=some .deep:=rfl
theorem c15:b6p .flat false true=some .shal:=rfl
theorem c7m (b:Bool):b6p .deep b false=some .deep:=by cases b<;>rfl
theorem g09 (m v:Bool):b6p .part m v=none:=by cases m<;>cases v<;>rfl
theorem c7n (b:Bool):b6p .shal false b=some .shal:=by cases b<;>rfl
theorem c0r (i:Nat):b1w i=.flat∨b1w i=.deep:=by grind[b1w]
section
variable {P:Program} {f:FuncId} {fn:Func} {c:Code} {args:List V} {O:List Blk}
theorem g1u {r O'} (rs:List ResultVar) (L:c4f) (hf:P.funcs[f]? =some fn) (hname:(fn.name == "runtime.NumGoroutine")=false)
    (hb:fn.body=some c) (hts:fn.results=rs.toArray) (hn:args.length≤fn.ntmps)
    (h:∀Q:AEx→St→Prop,(∀s,(d0r P s rs fun vs vw=>b6b O.length {s with vw:=vw} (b6n vs) r O')→Q .normal s)→(∀s,(d0r P s rs fun vs vw=>b6b O.length {s with vw:=vw} (b6n vs) r O')→Q .ret s)→
      awp P L O.length c Q ⟨b5s 0 args,O,false,fn.ntmps,0⟩):Con P f args O r O':=
  b76.con (c31 (R:=isR r O') rs L 0 hf hname hb hts hn (b2o _ _) (h (fun e s=>match e with | .exit _=>False | _=>∃s2,b44 O.length s s2∧d0r P s2 rs fun vs vw=>∃r' O'',isR r O' r' O''∧b6b O.length {s2 with vw:=vw} (b6n vs) r' O'')
    (fun s q=>⟨s,b2o _ _,b99 (fun _ _ z=>⟨r,O',⟨rfl,rfl⟩,z⟩) q⟩) (fun s q=>⟨s,b2o _ _,b99 (fun _ _ z=>⟨r,O',⟨rfl,rfl⟩,z⟩) q⟩)))
theorem g1d {R:V→List Blk→Prop} (rs:List ResultVar) (L:c4f) (hf:P.funcs[f]? =some fn) (hname:(fn.name == "runtime.NumGoroutine")=false)
    (hb:fn.body=some c) (hts:fn.results=rs.toArray) (hn:args.length≤fn.ntmps)
    (h:∀Q:AEx→St→Prop,(∀s,(d0r P s rs fun vs vw=>∃r O',R r O'∧b6b O.length {s with vw:=vw} (b6n vs) r O')→Q .normal s)→(∀s,(d0r P s rs fun vs vw=>∃r O',R r O'∧b6b O.length {s with vw:=vw} (b6n vs) r O')→Q .ret s)→
      awp P L O.length c Q ⟨b5s 0 args,O,false,fn.ntmps,0⟩):b76 P f args O R:=
  c31 rs L 0 hf hname hb hts hn (b2o _ _) (h (fun e s=>match e with | .exit _=>False | _=>∃s2,b44 O.length s s2∧d0r P s2 rs fun vs vw=>∃r O',R r O'∧b6b O.length {s2 with vw:=vw} (b6n vs) r O')
    (fun s q=>⟨s,b2o _ _,q⟩) (fun s q=>⟨s,b2o _ _,q⟩))
end
end Go.Vm
namespace Go.Vm
open Go
section
variable {P:Program} {L:c4f} {s:St} {E:List (Nat×V)} {nid:Nat} {o:Oper} {rg:Array Oper}
def St.wE (s:St) (E:List (Nat×V)):St:={s with env:=E}
theorem d4d (v:V):b1v (s.wE E) v=b1v s v:=by cases v<;>rfl
theorem c5g:∀cs:List V,b2x (s.wE E) cs=b2x s cs
  | []=>rfl
  | c::cs=>by rw [b2x,b2x,d4d,c5g cs]
theorem d6b (v:V):b9k (s.wE E) v=b9k s v:=by
  cases v<;>first | rfl | grind[b9k,c5g]
theorem c5y (ls:List Nat) (v:V):b1o (s.wE E) ls v=b1o s ls v:=by cases v<;>rfl
theorem b8m (ls:List Nat):∀cs:List V,b1d (s.wE E) ls cs=b1d s ls cs
  | []=>rfl
  | c::cs=>by rw [b1d,b1d,c5y,b8m ls cs]
theorem d7l (id:Nat):(s.wE E).row id=s.row id:=rfl
theorem d1z:∀xs:List V,b2i (s.wE E) xs=b2i s xs
  | []=>rfl
  | .agg cs::xs=>by rw [b2i,b2i,b8m,d1z xs]
  | .int _ _::_ | .bool _::_ | .str _::_ | .nsl::_ | .sl _::_ | .ref _::_ | .sub _ _ _::_ | .ptr _ _ _::_ | .pv _ _ _::_
  | .npt::_ | .fn _ _::_ | .nfn::_ | .tup _::_ | .opt _ _::_ | .any::_=>rfl
theorem f5d (ls:List Nat) (v:V):b2y (s.wE E) ls v=b2y s ls v:=by
  match v with
  | .ref id=>simp[b2y,c5y,d1z,d7l]
  | .ptr id 0 off=>simp[b2y,c5y,b8m,d7l]
  | .ptr id (i+1) off=>rfl
  | .agg cs=>simp only [b2y,b8m]
  | .fn f cs=>simp only [b2y,b8m]
  | .int _ _ | .bool _ | .str _ | .nsl | .sl _ | .sub _ _ _ | .pv _ _ _ | .npt | .nfn | .tup _ | .opt _ _ | .any=>rfl
theorem d1k (ls:List Nat):∀cs:List V,b1u (s.wE E) ls cs=b1u s ls cs
  | []=>rfl
  | c::cs=>by rw [b1u,b1u,f5d,d1k ls cs]
theorem g3t {op:Op} {G:Bool} {K} (he:∀x∈op.operands,(s.wE E).ev x=s.ev x):aop P (s.wE E) nid G op K=aop P s nid G op K:=by
  cases op with
  | move x=>have h:=he x (by simp [Op.operands]);simp only [aop,h];rfl
  | assign x=>have h:=he x (by simp [Op.operands]);simp only [aop,h];rfl
  | pick c x y=>
    have h1:=he c (by simp [Op.operands]);have h2:=he x (by simp [Op.operands]);have h3:=he y (by simp [Op.operands]);simp only [aop,h1,h2,h3];rfl
  | alloc T=>rfl
  | box T x=>have h:=he x (by simp [Op.operands]);simp only [aop,h];rfl
  | build T ps=>
    have e1:(ps.toList.map fun p=>(p.1,((s.wE E).ev p.2).un))=ps.toList.map fun p=>(p.1,(s.ev p.2).un):=
      Za fun p hp=>by rw [he p.2 (by simp only [Op.operands,Zb,Ze];grind)]
    have e2:(∀p∈ps.toList,((s.wE E).ev p.2).gd=true∧((s.wE E).ev p.2).un.isVal=true)=∀p∈ps.toList,(s.ev p.2).gd=true∧(s.ev p.2).un.isVal=true:=by
      apply propext;constructor
      · intro h p hp;have:=h p hp;rwa [he p.2 (by simp only [Op.operands,Zb,Ze];grind)] at this
      · intro h p hp;rw [he p.2 (by simp only [Op.operands,Zb,Ze];grind)];grind
    simp only [aop,e1,e2];rfl
  | buildSlice T n ps=>
    have e1:(ps.toList.map fun p=>(p.1,((s.wE E).ev p.2).un))=ps.toList.map fun p=>(p.1,(s.ev p.2).un):=
      Za fun p hp=>by rw [he p.2 (by simp only [Op.operands,Zb,Ze];grind)]
    have e2:(∀p∈ps.toList,((s.wE E).ev p.2).gd=true)=∀p∈ps.toList,(s.ev p.2).gd=true:=by
      apply propext;constructor
      · intro h p hp;have:=h p hp;rwa [he p.2 (by simp only [Op.operands,Zb,Ze];grind)] at this
      · intro h p hp;rw [he p.2 (by simp only [Op.operands,Zb,Ze];grind)];grind
    simp only [aop,e1,e2];rfl
  | load T x=>have h:=he x (by simp [Op.operands]);simp only [aop,h];rfl
  | nilCheck x=>have h:=he x (by simp [Op.operands]);simp only [aop,h];rfl
  | binOp op xt x y yt=>
    have h1:=he x (by simp [Op.operands]);have h2:=he y (by simp [Op.operands]);simp only [aop,h1,h2];rfl
  | unOp op t x=>have h:=he x (by simp [Op.operands]);simp only [aop,h];rfl
  | convert a b x=>have h:=he x (by simp [Op.operands]);simp only [aop,h];rfl
  | makeFunc fn first cap=>
    cases fn with
    | func f=>
      have e1:cap.toList.map (s.wE E).ev=cap.toList.map s.ev:=Za fun x hx=>he x (by grind[Op.operands])
      simp only [aop,e1];rfl
    | _=>rfl
  | makeSlice t l c=>
    have h1:=he l (by simp [Op.operands]);have h2:=he c (by simp [Op.operands]);simp only [aop,h1,h2];rfl
  | slice t x lo hi mx=>
    have h1:=he x (by simp [Op.operands]);have e1:(lo.map fun y=>((s.wE E).ev y).un)=lo.map fun y=>(s.ev y).un:=by
      cases lo with
      | none=>rfl
      | some y=>grind[Op.operands]
    have e2:(hi.map fun y=>((s.wE E).ev y).un)=hi.map fun y=>(s.ev y).un:=by
      cases hi with
      | none=>rfl
      | some y=>grind[Op.operands]
    have e3:(∀y,lo=some y→((s.wE E).ev y).gd=true)=∀y,lo=some y→(s.ev y).gd=true:=by
      grind[Op.operands]
    have e4:(∀y,hi=some y→((s.wE E).ev y).gd=true)=∀y,hi=some y→(s.ev y).gd=true:=by
      grind[Op.operands]
    simp only [aop,h1,e1,e2,e3,e4];rfl
  | fieldAddr t x f=>have h:=he x (by simp [Op.operands]);simp only [aop,h];rfl
  | field t x f=>have h:=he x (by simp [Op.operands]);simp only [aop,h];rfl
  | indexAddr t x i=>
    have h1:=he x (by simp [Op.operands]);have h2:=he i (by simp [Op.operands]);simp only [aop,h1,h2];rfl
  | index t x i=>
    have h1:=he x (by simp [Op.operands]);have h2:=he i (by simp [Op.operands]);simp only [aop,h1,h2];rfl
  | extract x i=>have h:=he x (by simp [Op.operands]);simp only [aop,h];rfl
  | call c=>
    obtain ⟨callee,args,tys⟩:=c;cases callee with
    | value f=>rfl
    | invoke r m=>rfl
    | builtin b=>
      have hm:∀x∈args,(s.wE E).ev x=s.ev x:=fun x hx=>he x (by grind[Op.operands,Call.operands])
      have hl:(args.toList.map fun x=>((s.wE E).ev x).un)=args.toList.map fun x=>(s.ev x).un:=Za fun x hx=>by grind
      have hg:(∀x∈args.toList,((s.wE E).ev x).gd=true)=∀x∈args.toList,(s.ev x).gd=true:=by
        grind
      by_cases h0:args.size=1
      · have hd:(s.wE E).ev (args.getD 0 default)=s.ev (args.getD 0 default):=hm _ (by simp [h0])
        cases b<;>first | rfl | (simp only [aop,hl,hg];done) | (simp only [aop,hl,hg];rfl) | (simp only [aop,hd];rfl)
      · cases b<;>first | rfl | (simp only [aop,hl,hg];done) | (simp only [aop,hl,hg];rfl) | simp_all[aop,false_and]
  | _=>rfl
def Eq' (rg:Array Oper) (o:Oper) (s:St) (E:List (Nat×V)):Prop:=∀t∈o.looksAt rg,look t E=s.get t
theorem Eq'.ev {rg} (h:Eq' rg o s E):∀x∈o.op.operands,(s.wE E).ev x=s.ev x:=by
  intro x _;cases x with
  | tmp t=>exact h t (qmb _ (List.mem_filterMap.2 ⟨.tmp t,by grind,rfl⟩))
  | const v=>rfl
  | global g=>rfl
  | func f=>rfl
theorem d13 {j:Nat} {want:Bool} {rg} (h:Eq' rg o s E) (hg:o.guard=some (j,want)):b01 (s.wE E) rg j want=b01 s rg j want:=by
  unfold b01;cases hd:(rg[j]?).bind (·.dst) with
  | none=>rfl
  | some d=>
    have:(s.wE E).get d=s.get d:=h d (qmq _ (by grind))
    grind
theorem d90 {T:TypeId} {F:St→Prop} (p v:V):b7r P (s.wE E) T F p v=b7r P s T (fun s'=>F (s'.wE E)) p v:=by
  unfold b7r;cases p<;>simp only [d6b]<;>rfl
theorem f1m (v:V):c7q (s.wE E) v=c7q s v:=by cases v<;>rfl
theorem c4x:∀cs:List V,b37 (s.wE E) cs=b37 s cs
  | []=>rfl
  | c::cs=>by rw [b37,b37,d6b,c4x cs]
theorem d4v (v:V):c5p (s.wE E) v=c5p s v:=by cases v<;>first | rfl | grind[c5p,d7l,c4x]
theorem d7e {t:TypeId} {F:V→St→Prop} (d x:V):b62 P (s.wE E) t F d x=b62 P s t (fun v s'=>F v (s'.wE E)) d x:=by
  unfold b62;rw [f1m,d4v];rfl
theorem d9w {t:TypeId} {F:St→Prop} (v:V):c3o P (s.wE E) t F v=c3o P s t (fun s'=>F (s'.wE E)) v:=by
  rfl
theorem f1h (v:V):d0p (s.wE E) v=d0p s v:=by cases v<;>rfl
theorem f5t {t:TypeId} {F:V→St→Prop} (d x:V):c7r P (s.wE E) t F d x=c7r P s t (fun v s'=>F v (s'.wE E)) d x:=by
  unfold c7r;rw [f1h,d4v];rfl
theorem f5s {f:FuncId} {ls:List Nat} {F:V→St→Prop} {args}:b9g P (s.wE E) f ls args F=b9g P s f ls args (fun v s'=>F v (s'.wE E)):=by
  have e0:∀(s:St),c7b P (s.wE E) f ls args F=c7b P s f ls args (fun v s'=>F v (s'.wE E)):=by
    intro s;unfold c7b;simp only [d1k];rfl
  have e:∀O1,c7b P {s.wE E with O:=O1} f ls args F=c7b P {s with O:=O1} f ls args (fun v s'=>F v (s'.wE E)):=fun O1=>e0 {s with O:=O1}
  unfold b9g;simp only [e];rfl
theorem g3u {K:V→St→Prop} {rg} (h:Eq' rg o s E):b1c P L (s.wE E) o K=b1c P L s o (fun v s'=>K v (s'.wE E)):=by
  have he:=h.ev;unfold b1c;split
  · grind[Op.operands,d90]
  · rename_i args tys ho
    rw [ho] at he
    by_cases h0:args.size=2
    · simp_all[default,Op.operands,Call.operands,Zh,d7e]
    grind
  · rename_i args tys ho
    rw [ho] at he
    by_cases h0:args.size=2
    · simp_all[default,Op.operands,Call.operands,Zh,f5t]
    grind
  · rename_i args tys ho
    rw [ho] at he
    by_cases h0:args.size=1
    · simp_all[default,Op.operands,Call.operands,Zh,d9w]
    grind
  · rename_i f args tys ho
    rw [ho] at he;have h1:=he f (by simp [Op.operands,Call.operands]);have hm:∀x∈args,(s.wE E).ev x=s.ev x:=fun x hx=>he x (by grind[Op.operands,Call.operands])
    have hl:(args.toList.map fun x=>((s.wE E).ev x).un)=args.toList.map fun x=>(s.ev x).un:=Za fun x hx=>by grind
    have hg:(∀x∈args.toList,((s.wE E).ev x).gd=true)=∀x∈args.toList,(s.ev x).gd=true:=by
      grind
    grind[f5s]
  · rw [g3t he]
    rfl
theorem f3s {G vw:Bool} {op:BinOp} {xt:TypeId} {K K':KV} (hK:∀v new vw,K v new vw→K' v new vw) {x y:V} (h:d3u P G op xt vw K x y):d3u P G op xt vw K' x y:=by
  unfold d3u at h⊢;split at h
  · obtain ⟨h0,h⟩:=h
    refine ⟨h0,?_⟩;cases op<;>first | grind | grind | grind | exact ⟨h.1,h.2.1,hK _ _ _ h.2.2⟩ | exact ⟨h.1,h.2.1,h.2.2.1,hK _ _ _ h.2.2.2⟩ | exact ⟨h.1,h.2.1,h.2.2.1,h.2.2.2.1,hK _ _ _ h.2.2.2.2⟩ | exact ⟨h.1,h.2.1,h.2.2.1,h.2.2.2.1,h.2.2.2.2.1,h.2.2.2.2.2.1,h.2.2.2.2.2.2.1,hK _ _ _ h.2.2.2.2.2.2.2⟩
  · cases op<;>first | grind | grind | grind | exact ⟨h.1,h.2.1,hK _ _ _ h.2.2⟩ | exact ⟨h.1,h.2.1,h.2.2.1,hK _ _ _ h.2.2.2⟩ | exact ⟨h.1,h.2.1,h.2.2.1,h.2.2.2.1,hK _ _ _ h.2.2.2.2⟩ | exact ⟨h.1,h.2.1,h.2.2.1,h.2.2.2.1,h.2.2.2.2.1,h.2.2.2.2.2.1,h.2.2.2.2.2.2.1,hK _ _ _ h.2.2.2.2.2.2.2⟩
  · obtain ⟨h0,h⟩:=h
    refine ⟨h0,?_⟩;cases op<;>first | grind | grind | exact ⟨h.1,hK _ _ _ h.2⟩ | exact ⟨h.1,h.2.1,hK _ _ _ h.2.2⟩ | exact ⟨h.1,h.2.1,h.2.2.1,hK _ _ _ h.2.2.2⟩ | exact ⟨h.1,h.2.1,h.2.2.1,h.2.2.2.1,hK _ _ _ h.2.2.2.2⟩ | exact ⟨h.1,h.2.1,h.2.2.1,h.2.2.2.1,h.2.2.2.2.1,h.2.2.2.2.2.1,h.2.2.2.2.2.2.1,hK _ _ _ h.2.2.2.2.2.2.2⟩
  · grind
  omega
theorem g4o {op:UnOp} {vw:Bool} {K K':KV} (hK:∀v new vw,K v new vw→K' v new vw) {x:V} (h:aUn op vw K x):aUn op vw K' x:=by
  unfold aUn at h⊢;cases x<;>first | grind | grind | grind | exact ⟨h.1,h.2.1,hK _ _ _ h.2.2⟩ | exact ⟨h.1,h.2.1,h.2.2.1,hK _ _ _ h.2.2.2⟩ | exact ⟨h.1,h.2.1,h.2.2.1,h.2.2.2.1,hK _ _ _ h.2.2.2.2⟩ | exact ⟨h.1,h.2.1,h.2.2.1,h.2.2.2.1,h.2.2.2.2.1,h.2.2.2.2.2.1,h.2.2.2.2.2.2.1,hK _ _ _ h.2.2.2.2.2.2.2⟩
theorem f1w {T:TypeId} {G:Bool} {K K':KV} (hK:∀v new vw,K v new vw→K' v new vw) {x:V} (h:b9i P s T G K x):b9i P s T G K' x:=by
  unfold b9i at h⊢;cases x<;>simp only [] at h⊢<;>first | exact h.elim | exact ⟨h.1,hK _ _ _ h.2⟩ | skip
  grind
theorem c9s {t:TypeId} {G:Bool} {K K':KV} (hK:∀v new vw,K v new vw→K' v new vw) {x y:V} (h:b3i P s t G K x y):b3i P s t G K' x y:=by
  unfold b3i at h⊢;cases x<;>cases y<;>simp only [] at h⊢<;>first | exact h.elim | exact ⟨h.1,h.2.1,hK _ _ _ h.2.2⟩ | skip
  · grind
  · grind
  · grind
  grind
theorem f5p {vw:Bool} {K K':KV} (hK:∀v new vw,K v new vw→K' v new vw) {x:V} (h:f4q s vw K x):f4q s vw K' x:=by
  unfold f4q at h⊢;cases x<;>simp only [] at h⊢<;>first | exact h.elim | exact hK _ _ _ h | skip
  grind
theorem d72 {t:TypeId} {G:Bool} {K K':KV} (hK:∀v new vw,K v new vw→K' v new vw) {x:V} {lo hi:Option V} (h:b82 P s t G K x lo hi):b82 P s t G K' x lo hi:=by
  unfold b82 at h⊢;cases x<;>simp only [] at h⊢<;>first | exact h.elim | skip
  · grind
  · grind
  · grind
  grind
theorem c9y {t:TypeId} {f:Nat} {vw:Bool} {K K':KV} (hK:∀v new vw,K v new vw→K' v new vw) {x:V} (h:b4f P t f vw K x):b4f P t f vw K' x:=by
  unfold b4f at h⊢;split at h
  · split at h
    · refine ⟨h.1,?_⟩
      have h:=h.2;cases x<;>first | grind | grind | exact ⟨h.1,hK _ _ _ h.2⟩ | exact ⟨h.1,h.2.1,hK _ _ _ h.2.2⟩ | exact ⟨h.1,h.2.1,h.2.2.1,hK _ _ _ h.2.2.2⟩ | exact ⟨h.1,h.2.1,h.2.2.1,h.2.2.2.1,hK _ _ _ h.2.2.2.2⟩ | exact ⟨h.1,h.2.1,h.2.2.1,h.2.2.2.1,h.2.2.2.2.1,h.2.2.2.2.2.1,h.2.2.2.2.2.2.1,hK _ _ _ h.2.2.2.2.2.2.2⟩
    omega
  omega
theorem d7z {t:TypeId} {f:Nat} {G vw:Bool} {K K':KV} (hK:∀v new vw,K v new vw→K' v new vw) {x:V} (h:c92 P t f G vw K x):c92 P t f G vw K' x:=by
  unfold c92 at h⊢;cases x<;>simp only [] at h⊢<;>first | exact h.elim | skip
  grind
theorem c8g {G:Bool} {op:Op} {K K':KV} (hK:∀v new vw,K v new vw→K' v new vw) (h:aop P s nid G op K):aop P s nid G op K':=by
  cases op<;>simp only [aop] at h⊢
  case move=>grind
  case assign=>grind
  case pick c x y=>
    cases hc:(s.ev c).un<;>simp only [hc] at h⊢<;>first | grind | grind | grind | exact ⟨h.1,h.2.1,hK _ _ _ h.2.2⟩ | exact ⟨h.1,h.2.1,h.2.2.1,hK _ _ _ h.2.2.2⟩ | exact ⟨h.1,h.2.1,h.2.2.1,h.2.2.2.1,hK _ _ _ h.2.2.2.2⟩ | exact ⟨h.1,h.2.1,h.2.2.1,h.2.2.2.1,h.2.2.2.2.1,h.2.2.2.2.2.1,h.2.2.2.2.2.2.1,hK _ _ _ h.2.2.2.2.2.2.2⟩
  case alloc T=>
    cases hc:Program.zeroOf P T<;>simp only [hc] at h⊢<;>first | grind | grind | grind | grind | exact ⟨h.1,h.2.1,h.2.2.1,hK _ _ _ h.2.2.2⟩ | exact ⟨h.1,h.2.1,h.2.2.1,h.2.2.2.1,hK _ _ _ h.2.2.2.2⟩ | exact ⟨h.1,h.2.1,h.2.2.1,h.2.2.2.1,h.2.2.2.2.1,h.2.2.2.2.2.1,h.2.2.2.2.2.2.1,hK _ _ _ h.2.2.2.2.2.2.2⟩
  case box=>first | grind | grind | grind | grind | exact ⟨h.1,h.2.1,h.2.2.1,hK _ _ _ h.2.2.2⟩ | exact ⟨h.1,h.2.1,h.2.2.1,h.2.2.2.1,hK _ _ _ h.2.2.2.2⟩ | exact ⟨h.1,h.2.1,h.2.2.1,h.2.2.2.1,h.2.2.2.2.1,h.2.2.2.2.2.1,h.2.2.2.2.2.2.1,hK _ _ _ h.2.2.2.2.2.2.2⟩
  case build T ps=>
    grind
  case buildSlice T n ps=>
    grind
  case load=>grind[f1w]
  case nilCheck x=>
    refine ⟨h.1,?_⟩;have h:=h.2;cases hc:(s.ev x).un<;>simp only [hc] at h⊢<;>first | grind | grind | exact ⟨h.1,hK _ _ _ h.2⟩ | exact ⟨h.1,h.2.1,hK _ _ _ h.2.2⟩ | exact ⟨h.1,h.2.1,h.2.2.1,hK _ _ _ h.2.2.2⟩ | exact ⟨h.1,h.2.1,h.2.2.1,h.2.2.2.1,hK _ _ _ h.2.2.2.2⟩ | exact ⟨h.1,h.2.1,h.2.2.1,h.2.2.2.1,h.2.2.2.2.1,h.2.2.2.2.2.1,h.2.2.2.2.2.2.1,hK _ _ _ h.2.2.2.2.2.2.2⟩
  case binOp op xt x y yt=>
    refine ⟨h.1,?_⟩;have h:=h.2;cases hn:c2z y with
    | false=>rw [hn,cond_false] at h;rw [cond_false];exact f3s hK h
    | true=>
      rw [hn,cond_true] at h;rw [cond_true];refine ⟨h.1,h.2.1,?_⟩;have h:=h.2.2;split at h
      · grind
      · grind
      · grind
      · grind
      omega
  case unOp=>grind[g4o]
  case convert a b x=>
    grind
  case makeFunc fn first cap=>
    cases fn<;>first | grind | grind | grind | exact ⟨h.1,h.2.1,hK _ _ _ h.2.2⟩ | exact ⟨h.1,h.2.1,h.2.2.1,hK _ _ _ h.2.2.2⟩ | exact ⟨h.1,h.2.1,h.2.2.1,h.2.2.2.1,hK _ _ _ h.2.2.2.2⟩ | exact ⟨h.1,h.2.1,h.2.2.1,h.2.2.2.1,h.2.2.2.2.1,h.2.2.2.2.2.1,h.2.2.2.2.2.2.1,hK _ _ _ h.2.2.2.2.2.2.2⟩
  case makeSlice t l c=>
    grind
  case slice=>grind[d72]
  case fieldAddr=>grind[c9y]
  case field=>grind[d7z]
  case indexAddr=>grind[c9s]
  case index t x i=>
    refine ⟨h.1,?_⟩;have h:=h.2;unfold b8t at h⊢
    grind
  case extract x i=>
    refine ⟨h.1,?_⟩;have h:=h.2;unfold b7b at h⊢
    grind
  case call c=>
    obtain ⟨callee,args,tys⟩:=c;cases callee<;>try exact h.elim
    rename_i b;cases b<;>try exact h.elim
    case len=>grind[f5p]
    all_goals
      refine ⟨h.1,?_⟩;have h:=h.2;unfold b6u at h⊢
      grind
  all_goals exact h.elim
theorem d64 {T:TypeId} {F F':St→Prop} (hF:∀s':St,s'.env=s.env→s'.n=s.n→F s'→F' s') {p v:V} (h:b7r P s T F p v):b7r P s T F' p v:=by
  unfold b7r at h⊢;cases p<;>simp only [] at h⊢<;>try exact h.elim
  split at h
  · grind
  · grind
  omega
theorem d45 {t:TypeId} {F F':V→St→Prop} (hF:∀v (s':St),s'.env=s.env→s'.n=s.n→F v s'→F' v s') {d x:V} (h:b62 P s t F d x):b62 P s t F' d x:=by
  unfold b62 at h⊢
  grind
theorem d70 {t:TypeId} {F F':St→Prop} (hF:∀s':St,s'.env=s.env→s'.n=s.n→F s'→F' s') {v:V} (h:c3o P s t F v):c3o P s t F' v:=by
  unfold c3o at h⊢;split at h
  · grind
  omega
theorem f1b {t:TypeId} {F F':V→St→Prop} (hF:∀v (s':St),s'.env=s.env→s'.n=s.n→F v s'→F' v s') {d x:V} (h:c7r P s t F d x):c7r P s t F' d x:=by
  unfold c7r at h⊢
  grind
theorem b56 {K K':V→St→Prop} (hK:∀v (s':St),s'.env=s.env→s'.n=s.n→K v s'→K' v s') (h:b1c P L s o K):b1c P L s o K':=by
  unfold b1c at h⊢;split at h
  · grind[d64]
  · grind[d45]
  · grind[f1b]
  · grind[d70]
  · split at h
    · refine ⟨h.1,?_⟩
      obtain ⟨O1,hp,args',Ols,R,a1,a2,a3,a4,a5,a6,a7⟩:=h.2;exact ⟨O1,hp,args',Ols,R,a1,a2,a3,a4,a5,a6,fun r O' hR=>⟨(a7 r O' hR).1,hK _ _ rfl rfl (a7 r O' hR).2⟩⟩
    omega
  · exact c8g (fun v new vw hk=>hK _ _ rfl rfl hk) h
theorem c6p {K K':St→Prop} {rg} (hK:∀(s0:St) (v:V),s0.env=s.env→s0.n=s.n→K (s0.set o.dst v)→K' (s0.set o.dst v)) (h:c75 P L rg o s K):c75 P L rg o s K':=by
  rcases h with h | ⟨hd,j,want,G,hg,hv,h,h'⟩
  · refine .inl ?_
    unfold b0x at h⊢;refine ⟨h.1,?_⟩;have h:=h.2;have both:∀{G:Bool},((G=true→b1c P L s o fun v s'=>K (s'.set o.dst v))∧(G=false→K (s.set o.dst (.opt false .any))))→((G=true→b1c P L s o fun v s'=>K' (s'.set o.dst v))∧(G=false→K' (s.set o.dst (.opt false .any)))):=
      fun h=>⟨fun g=>b56 (fun v s' e n hk=>hK s' v e n hk) (h.1 g),fun g=>hK s _ rfl rfl (h.2 g)⟩
    split at h
    · grind
    · rename_i j want hg
      (try simp only [])
      split at h
      · omega
      · rename_i G hv
        (try rw [hv])
        (try simp only [])
        cases ho:b0s o.op with
        | true=>
          rw [ho,cond_true] at h;rw [cond_true];exact c8g (fun v new vw hk=>⟨hk.1,hk.2.1,hK s _ rfl rfl hk.2.2⟩) h
        | false=>
          rw [ho,cond_false] at h;rw [cond_false];split at h
          · cases hs:b1f P o.type with
            | true=>
              grind
            | false=>
              grind
          grind
  · exact .inr ⟨hd,j,want,G,hg,hv,fun g=>b56 (fun v s' e n hk=>hK s' _ e n hk) (h g),fun g=>(h' g).imp fun v q=>hK s _ rfl rfl q⟩
theorem d5t {K:St→Prop} {rg} (he:Eq' rg o s E) (h:c75 P L rg o s K) :
    c75 P L rg o (s.wE E) (fun t'=>∃(s0:St) (v:V),s0.env=s.env∧s0.n=s.n∧K (s0.set o.dst v)∧t'=(s0.wE E).set o.dst v):=by
  have hex:∀{F:V→St→Prop},b1c P L s o F→b1c P L (s.wE E) o (fun v t'=>∃s0:St,s0.env=s.env∧s0.n=s.n∧F v s0∧t'=s0.wE E):=by
    intro F h;rw [g3u he];exact b56 (fun v s' e n hk=>⟨s',e,n,hk,rfl⟩) h
  rcases h with h | ⟨hd,j,want,G,hg,hv,h,h'⟩
  · refine .inl ?_
    unfold b0x at h⊢;refine ⟨h.1,?_⟩;have h:=h.2;have both:∀{G:Bool},((G=true→b1c P L s o fun v s'=>K (s'.set o.dst v))∧(G=false→K (s.set o.dst (.opt false .any))))→
        ((G=true→b1c P L (s.wE E) o fun v s'=>∃(s0:St) (v':V),s0.env=s.env∧s0.n=s.n∧K (s0.set o.dst v')∧s'.set o.dst v=(s0.wE E).set o.dst v')∧
          (G=false→∃(s0:St) (v':V),s0.env=s.env∧s0.n=s.n∧K (s0.set o.dst v')∧(s.wE E).set o.dst (.opt false .any)=(s0.wE E).set o.dst v')):=
      fun h=>⟨fun g=>b56 (fun v s' _ _ ⟨s0,e,n,hk,e2⟩=>⟨s0,v,e,n,hk,by rw [e2]⟩) (hex (h.1 g)),fun g=>⟨s,_,rfl,rfl,h.2 g,rfl⟩⟩
    split at h
    · grind
    · rename_i j want hg
      (try simp only [])
      rw [d13 he hg];split at h
      · omega
      · rename_i G hv
        (try rw [hv])
        (try simp only [])
        cases ho:b0s o.op with
        | true=>
          rw [ho,cond_true] at h;rw [cond_true];rw [g3t he.ev];exact c8g (fun v new vw hk=>⟨hk.1,hk.2.1,s,_,rfl,rfl,hk.2.2,rfl⟩) h
        | false=>
          rw [ho,cond_false] at h;rw [cond_false];split at h
          · cases hs:b1f P o.type with
            | true=>
              rw [hs,cond_true] at h;rw [cond_true];obtain ⟨r,h1,h2⟩:=h;exact ⟨r,fun g=>b56 (fun v s' _ _ ⟨s0,_,_,hk,e2⟩=>⟨hk.1,by simp_all⟩) (hex (h1 g)),s,_,rfl,rfl,h2,rfl⟩
            | false=>
              grind
          grind
  · exact .inr ⟨hd,j,want,G,hg,by grind[d13],fun g=>b56 (fun v s' _ _ ⟨s0,e,n,hk,e2⟩=>⟨s0,_,e,n,hk,by rw [e2]⟩) (hex (h g)),fun g=>(h' g).imp fun v q=>⟨s,_,rfl,rfl,q,rfl⟩⟩
def Grow (O O':List Blk):Prop:=∀(id:Nat) (b:Blk),O[id]? =some b→O'[id]? =some b
theorem Grow.refl (O:List Blk):Grow O O:=fun _ _ h=>h
theorem Grow.trans {a b c} (h:Grow a b) (k:Grow b c):Grow a c:=fun id x e=>k id x (h id x e)
theorem Grow.app (O new:List Blk):Grow O (O++new):=fun id b h=>by
  grind
def c2c (L:c4f) (o:Op):Bool:=match o with
  | .store _ _ _=>false
  | .call {callee:=.builtin .append,..}=>false
  | .call {callee:=.builtin .clear,..}=>false
  | .call {callee:=.builtin .copy,..}=>false
  | .call {callee:=.value (.func g),..}=>(b4q L g).isEmpty
  | .call {callee:=.value _,..}=>L.isEmpty
  | _=>true
theorem d1e {K:V→St→Prop} (hg:c2c L o.op=true) (h:b1c P L s o K):b1c P L s o (fun v s'=>Grow s.O s'.O∧K v s'):=by
  unfold b1c at h⊢;split at h
  · rename_i e;rw [e] at hg;cases hg
  · rename_i e;rw [e] at hg;cases hg
  · rename_i e;rw [e] at hg;cases hg
  · rename_i e;rw [e] at hg;cases hg
  · rename_i f args tys e
    rw [e] at hg;split at h
    · rename_i g caps hf
      refine ⟨h.1,?_⟩;have hl:b4q L g=[]:=by
        cases f with
        | func g'=>
          grind[St.ev,V.un,c2c]
        | _=>
          have hL:L=[]:=by simpa [c2c] using hg
          rw [hL];rfl
      have hn:b3x (b4q L g) (args.toList.map (fun x=>(s.ev x).un)++caps)=[]:=by rw [hl];rfl
      obtain ⟨O1,hp,args',Ols,R,a1,a2,a3,a4,a5,a6,a7⟩:=h.2;have hp':O1=s.O:=hp.resolve_right fun q=>q.1 hn
      subst hp';refine ⟨_,.inl rfl,args',Ols,R,a1,a2,a3,a4,a5,a6,fun r O' hR=>⟨(a7 r O' hR).1,?_,(a7 r O' hR).2⟩⟩
      grind[b4p,Grow.app]
    omega
  grind[c8g,Grow.app]
theorem f3b (s:St) (d:Option Nat) (v:V):(s.set d v).O=s.O:=by cases d<;>rfl
theorem g1y (s:St) (d:Option Nat) (v:V):(s.set d v).n=s.n:=by cases d<;>rfl
theorem d9t {K:St→Prop} {rg} (hg:c2c L o.op=true) (h:c75 P L rg o s K):c75 P L rg o s (fun t'=>Grow s.O t'.O∧K t'):=by
  rcases h with h | ⟨hd,j,want,G,hg',hv,h,h'⟩
  · refine .inl ?_
    unfold b0x at h⊢;refine ⟨h.1,?_⟩;have h:=h.2;have ex:(b1c P L s o fun v s'=>K (s'.set o.dst v))→b1c P L s o fun v s'=>Grow s.O (s'.set o.dst v).O∧K (s'.set o.dst v):=
      fun h=>b56 (fun v s' _ _ hk=>⟨by rw [f3b];grind,hk.2⟩) (d1e hg h)
    have stay:∀v,Grow s.O (s.set o.dst v).O:=fun v=>by rw [f3b];exact Grow.refl _
    split at h
    · grind
    · rename_i j want hg
      (try simp only [])
      split at h
      · omega
      · rename_i G hv
        (try rw [hv])
        (try simp only [])
        cases ho:b0s o.op with
        | true=>
          grind
        | false=>
          rw [ho,cond_false] at h;rw [cond_false];split at h
          · cases hs:b1f P o.type with
            | true=>
              grind
            | false=>
              grind
          grind
  · exact .inr ⟨hd,j,want,G,hg',hv,fun g=>b56 (fun v s' _ _ hk=>⟨by rw [f3b];grind,hk.2⟩) (d1e hg (h g)),fun g=>(h' g).imp fun v q=>⟨by rw [f3b];exact Grow.refl _,q⟩⟩
structure EqS (s t:St):Prop where
  get:∀x,t.get x=s.get x
  O:t.O=s.O
  vw:t.vw=s.vw
  n:t.n=s.n
  mask:t.mask=s.mask
theorem f3l {K:St→Prop} {rg} (hK:∀s t,EqS s t→K s→K t):∀(fuel:Nat) (listed:Array Bool) (s t:St),EqS s t→b13 P L rg K fuel listed s→b13 P L rg K fuel listed t
  | 0,_,s,t,e,h=>⟨h.1,hK s t e h.2⟩
  | fuel+1,listed,s,t,e,h=>by
    refine ⟨fun h0=>hK s t e (h.1 h0),fun i hi o ho=> ?_⟩;have h1:=d5t (E:=t.env) (fun x _=>by exact e.get x) (h.2 i hi o ho);have ht:s.wE t.env=t:=by cases t;simp only [St.wE];have:=e.O;have:=e.vw;have:=e.n;have:=e.mask;grind
    rw [ht] at h1;refine c6p ?_ h1;rintro t0 v _ _ ⟨s0,v',e0,en,hk,e1⟩;rw [e1];refine f3l hK fuel _ _ _ ⟨fun x=> ?_,by rfl,by cases o.dst<;>rfl,by rfl,by cases o.dst<;>rfl⟩ hk
    have key:∀y,look y (s0.wE t.env).env=look y s0.env:=fun y=>by rw [e0];exact e.get y
    cases o.dst with
    | none=>exact key x
    | some d=>show look x ((d,v')::_)=look x ((d,v')::_);grind[b0f]
def Region.depStep (ops:Array Oper) (listed:Array Bool) (i:Nat) (acc:List Nat) (j:Nat):List Nat:=
  bif (!listed.getD j true && match ops[j]? with | some oj=>oj.after.any (fun e=>Go.Region.binds .any e && (e.on == i || acc.contains e.on)) | none=>false) then j::acc else acc
def Region.depsOf (ops:Array Oper) (listed:Array Bool) (i:Nat):List Nat:=(List.range ops.size).foldl (Region.depStep ops listed i) []
def Region.DepsOK (ops:Array Oper) (listed:Array Bool) (i:Nat) (acc:List Nat):Prop:=
  ∀j∈acc,listed.getD j true=false∧∃oj,ops[j]? =some oj∧∃e∈oj.after,Go.Region.binds .any e=true∧(e.on=i∨e.on∈acc)
theorem Region.depStep_ok {i j:Nat} {acc:List Nat} {ops listed} (h:Region.DepsOK ops listed i acc):Region.DepsOK ops listed i (Region.depStep ops listed i acc j):=by
  unfold Region.depStep;cases hb:(!listed.getD j true && match ops[j]? with | some oj=>oj.after.any (fun e=>Go.Region.binds .any e && (e.on == i || acc.contains e.on)) | none=>false) with
  | false=>exact h
  | true=>
    rw [cond_true];rw [qlg,Bool.not_eq_true'] at hb;obtain ⟨h1,h2⟩:=hb;intro k hk;rcases qlv.1 hk with rfl | hk
    · grind
    · obtain ⟨q1,oj,q2,e,q3,q4,q5⟩:=h k hk
      grind
theorem Region.depsOf_ok (ops:Array Oper) (listed:Array Bool) (i:Nat):Region.DepsOK ops listed i (Region.depsOf ops listed i):=by
  unfold Region.depsOf;have key:∀(l:List Nat) (acc:List Nat),Region.DepsOK ops listed i acc→Region.DepsOK ops listed i (l.foldl (Region.depStep ops listed i) acc):=by
    intro l
    induction l with
    | nil=>simp
    | cons x l ih=>grind[Region.depStep_ok]
  exact key _ _ (fun j hj=>by grind)
def Region.freeG (L:c4f) (kp:Bool) (ops:Array Oper) (listed:Array Bool) (i:Nat):Bool:=
  match ops[i]? with
  | none=>false
  | some oi=>(List.range ops.size).all fun j=>j == i || listed.getD j true || (Region.depsOf ops listed i).contains j || match ops[j]? with
      | some oj=>oi.apart ops oj && (!kp || c2c L oj.op)
      | none=>true
theorem Region.freeG_spec {kp:Bool} {ops:Array Oper} {i:Nat} {oi:Oper} {listed:Array Bool} (hi:ops[i]? =some oi) (h:Region.freeG L kp ops listed i=true) (j:Nat) (oj:Oper)
    (hj:ops[j]? =some oj) (hne:j≠i) (hun:listed.getD j true=false) (hno:j ∉ Region.depsOf ops listed i) :
    oi.apart ops oj=true∧(kp=true→c2c L oj.op=true):=by
  simp only [Region.freeG,hi,List.all_eq_true,List.mem_range] at h
  grind
def b9j (P:Program) (L:c4f) (rg:Array Oper) (kp:Bool) (oi:Oper) (d:Nat) (v:V) (s:St):Prop:=
  ∀t:St,t.n=s.n→(∀x∈oi.looksAt rg,t.get x=s.get x)→(kp=true→Grow s.O t.O)→∀K:St→Prop,K (t.set (some d) v)→c75 P L rg oi t K
theorem f1x {rg:Array Oper} {K:St→Prop} (hK:∀s t,EqS s t→K s→K t) {i d:Nat} {oi:Oper} {v:V} {kp:Bool} (hi:rg[i]? =some oi) (hd:oi.dst=some d) :
    ∀ (fuel:Nat) (listed:Array Bool) (s:St),
      (∃D:List Nat,Region.DepsOK rg listed i D∧∀j oj,rg[j]? =some oj→j≠i→listed.getD j true=false→j ∉ D→oi.apart rg oj=true∧(kp=true→c2c L oj.op=true))→
      i∈Zd .any rg listed→b9j P L rg kp oi d v s→b13 P L rg K fuel (listed.setIfInBounds i true) (s.set (some d) v)→b13 P L rg K (fuel+1) listed s:=by
  intro fuel
  induction fuel with
  | zero=>
    intro listed s _ hr hp H;refine ⟨fun h=>(by grind),fun j hj oj hoj=> ?_⟩
    by_cases hji:j=i
    · subst hji
      rw [hi] at hoj;cases hoj;exact hp s rfl (fun _ _=>rfl) (fun _=>Grow.refl _) _ H
    · have:=ready_mono hj hji
      rw [H.1] at this
      grind
  | succ fuel ih=>
    intro listed s hfree hr hp H;refine ⟨fun h=>(by grind),fun j hj oj hoj=> ?_⟩
    by_cases hji:j=i
    · subst hji
      rw [hi] at hoj;cases hoj;exact hp s rfl (fun _ _=>rfl) (fun _=>Grow.refl _) _ H
    · have h1:=H.2 j (ready_mono hj hji) oj hoj
      obtain ⟨hjun,oj',hoj',hall⟩:=mem_ready.1 hj;rw [hoj] at hoj';cases hoj';obtain ⟨D,hD,hfree⟩:=hfree;have clash:∀m,listed.getD m true=false→∀e∈oj.after,Go.Region.binds .any e=true→e.on≠m:=fun m h0 e he hb heq=>by
        grind
      have hnot:j ∉ D:=fun hjD=>by
        obtain ⟨_,oj2,q2,e,q3,q4,q5⟩:=hD j hjD;rw [hoj] at q2;cases q2;rcases q5 with q5 | q5
        · grind[mem_ready]
        · exact clash e.on (hD e.on q5).1 e q3 q4 rfl
      obtain ⟨hap,hgr⟩:=hfree j oj hoj hji hjun hnot;obtain ⟨a1,a2,a3⟩:=Oper.apart_spec hap;have hlook:∀x,x≠d→look x ((d,v)::s.env)=look x s.env:=fun x hx=>by rw [b0f,if_neg hx]
      have heq:Eq' rg oj (s.set (some d) v) s.env:=fun x hx=>(hlook x (fun e=>a1 d hd (e ▸ hx))).symm
      have h2:=d5t heq h1;have hback:(s.set (some d) v).wE s.env=s:=rfl;rw [hback] at h2;have h3:c75 P L rg oj s (fun t'=>(kp=true→Grow s.O t'.O)∧∃(s0:St) (v':V),s0.env=(s.set (some d) v).env∧s0.n=(s.set (some d) v).n∧b13 P L rg K fuel ((listed.setIfInBounds i true).setIfInBounds j true) (s0.set oj.dst v')∧t'=(s0.wE s.env).set oj.dst v'):=by
        cases hk:kp with
        | false=>grind
        | true=>grind[c6p,d9t]
      refine c6p ?_ h3;rintro t0 tv _ _ ⟨hgrow,s0,v',e0,en,hk,e1⟩;rw [e1] at hgrow⊢;have hfree':∃D:List Nat,Region.DepsOK rg (listed.setIfInBounds j true) i D∧∀k ok,rg[k]? =some ok→k≠i→(listed.setIfInBounds j true).getD k true=false→
          k ∉ D→oi.apart rg ok=true∧(kp=true→c2c L ok.op=true):=by
        refine ⟨D,fun k hk=> ?_,fun k ok hk hki hun hno=> ?_⟩
        · obtain ⟨q1,q2⟩:=hD k hk
          refine ⟨?_,q2⟩;rw [getD_set_ne true (fun e:j=k=>hnot (e ▸ hk))];omega
        · refine hfree k ok hk hki ?_ hno
          by_cases hjk:j=k
          · grind
          · rw [getD_set_ne true hjk] at hun;omega
      have hgets:∀x∈oi.looksAt rg,((s0.wE s.env).set oj.dst v').get x=s.get x:=by
        intro x hx;cases hdj:oj.dst with
        | none=>rfl
        | some dj=>
          show look x ((dj,v')::s.env)=look x s.env;rw [b0f,if_neg (fun e:x=dj=>a3 dj hdj (e ▸ hx))]
      refine ih (listed.setIfInBounds j true) _ hfree' (ready_mono hr (Ne.symm hji)) ?_ ?_
      · intro t hn hx hO K' hK'
        exact hp t (hn.trans (by rw [g1y];exact en)) (fun x hx'=>(hx x hx').trans (hgets x hx')) (fun q=>(hgrow q).trans (hO q)) K' hK'
      · rw [Array.setIfInBounds_comm _ _ hji]
        refine f3l hK fuel _ _ _ ⟨fun x=> ?_,by rfl,by cases oj.dst<;>rfl,by rfl,by cases oj.dst<;>rfl⟩ hk
        cases hdj:oj.dst with
        | none=>
          show look x ((d,v)::s.env)=look x s0.env;rw [e0];rfl
        | some dj=>
          have hne:dj≠d:=fun e=>a2 d hd (by grind)
          show look x ((d,v)::(dj,v')::s.env)=look x ((dj,v')::s0.env);rw [e0];show look x ((d,v)::(dj,v')::s.env)=look x ((dj,v')::(d,v)::s.env);simp only [b0f]
          grind
theorem c78 {rg:Array Oper} {i:Nat} {oi rest} (h:rg.toList.drop i=oi::rest):rg[i]? =some oi:=by
  have:=congrArg List.head? h
  grind[List.head?_drop,List.head?_cons]
theorem b2l {rg:Array Oper} {K:St→Prop} (hK:∀s t,EqS s t→K s→K t) (kp:Bool) (i d:Nat) {oi:Oper} {rest:List Oper} {fuel:Nat} {listed:Array Bool} (hi:rg.toList.drop i=oi::rest) (hd:oi.dst=some d)
    (hf:Region.freeG L kp rg listed i=true) (hr:(Zd .any rg listed).contains i=true) (h:∃v,b9j P L rg kp oi d v s∧b13 P L rg K fuel (listed.setIfInBounds i true) (s.set (some d) v)):b13 P L rg K (fuel+1) listed s:=by
  obtain ⟨v,h1,h2⟩:=h;exact f1x hK (c78 hi) hd fuel listed s ⟨_,Region.depsOf_ok rg listed i,Region.freeG_spec (c78 hi) hf⟩ (by grind) h1 h2
theorem b4j {rg:Array Oper} {K} (i:Nat) {oi:Oper} {rest:List Oper} {fuel:Nat} {listed:Array Bool} (hi:rg.toList.drop i=oi::rest) (hr:Zd .any rg listed=[i])
    (h:∀K':St→Prop,(∀s,b13 P L rg K fuel (listed.setIfInBounds i true) s→K' s)→b0x P L rg oi s K'):b13 P L rg K (fuel+1) listed s:=by
  refine ⟨fun h0=>(by grind),fun j hj o ho=> ?_⟩;rw [hr,qlm] at hj;subst hj;rw [c78 hi] at ho;cases ho;exact .inl (h _ fun _ h=>h)
theorem b1e {rg:Array Oper} {K} (i i':Nat) {oi oi':Oper} {rest rest':List Oper} {fuel:Nat} {listed:Array Bool} (hi:rg.toList.drop i=oi::rest) (hi':rg.toList.drop i'=oi'::rest') (hr:Zd .any rg listed=[i,i'])
    (h:∀K':St→Prop,(∀s,b13 P L rg K fuel (listed.setIfInBounds i true) s→K' s)→b0x P L rg oi s K') (h':∀K':St→Prop,(∀s,b13 P L rg K fuel (listed.setIfInBounds i' true) s→K' s)→b0x P L rg oi' s K'):b13 P L rg K (fuel+1) listed s:=by
  refine ⟨fun h0=>(by grind),fun j hj o ho=> ?_⟩;rw [hr] at hj;rcases qlv.1 hj with e | hj
  · subst e
    rw [c78 hi] at ho;cases ho;exact .inl (h _ fun _ h=>h)
  · rw [qlm] at hj
    subst hj;rw [c78 hi'] at ho;cases ho;exact .inl (h' _ fun _ h=>h)
theorem b5m {rg:Array Oper} {K} (i i' i2:Nat) {oi oi' oi2:Oper} {rest rest' rest2:List Oper} {fuel:Nat} {listed:Array Bool} (hi:rg.toList.drop i=oi::rest) (hi':rg.toList.drop i'=oi'::rest') (hi2:rg.toList.drop i2=oi2::rest2) (hr:Zd .any rg listed=[i,i',i2])
    (h:∀K':St→Prop,(∀s,b13 P L rg K fuel (listed.setIfInBounds i true) s→K' s)→b0x P L rg oi s K') (h':∀K':St→Prop,(∀s,b13 P L rg K fuel (listed.setIfInBounds i' true) s→K' s)→b0x P L rg oi' s K')
    (h2:∀K':St→Prop,(∀s,b13 P L rg K fuel (listed.setIfInBounds i2 true) s→K' s)→b0x P L rg oi2 s K'):b13 P L rg K (fuel+1) listed s:=by
  refine ⟨fun h0=>(by grind),fun j hj o ho=> ?_⟩;rw [hr] at hj;rcases qlv.1 hj with e | hj
  · subst e
    rw [c78 hi] at ho;cases ho;exact .inl (h _ fun _ h=>h)
  · rcases qlv.1 hj with e | hj
    · subst e
      rw [c78 hi'] at ho;cases ho;exact .inl (h' _ fun _ h=>h)
    · rw [qlm] at hj
      subst hj;rw [c78 hi2] at ho;cases ho;exact .inl (h2 _ fun _ h=>h)
theorem b0b {K:St→Prop} {fuel:Nat} {rg listed} (hr:Zd .any rg listed=[]) (h:K s):b13 P L rg K fuel listed s:=by
  cases fuel with
  | zero=>exact ⟨hr,h⟩
  | succ n=>exact ⟨fun _=>h,by grind⟩
theorem f8c {m:Nat} {s t u} (h:EqS s t) (hw:b44 m s u):b44 m t u:=fun cx a w μ ow hm hr=>by
  refine hw cx a w μ ow hm ⟨hr.dfr,by rw [hr.sz,h.n],fun x=> ?_,fun id bk e=> ?_,fun id hid=>hr.dom id (by rw [h.O];omega),hr.owl,hr.own,hr.frm,hr.mu⟩
  · obtain ⟨bl,r1,r2⟩:=hr.env x
    rw [h.get] at r1;rw [h.vw] at r2
    grind
  · have:=hr.blk id bk (by rw [h.O];exact e)
    rw [h.vw] at this;omega
theorem b1b {m id:Nat} {Q:AEx→St→Prop} {ops:Array Oper} (hm:P.follows .mixedOrders=true)
    (h:∀K:St→Prop,(∀s t,EqS s t→K s→K t)→(∀s,Q .normal s→K s)→b13 P L ops K ops.size (Array.replicate ops.size false) s):awp P L m (.region id ops true) Q s:=
  ⟨hm,h _ (fun _ _ e ⟨s₁,hw,hq⟩=>⟨s₁,f8c e hw,hq⟩) (fun s hq=>⟨s,b2o m s,hq⟩)⟩
end
theorem b2w {s:St} {rg:Array Oper} {P L K} (i d j:Nat) (want:Bool) {oi:Oper} {rest:List Oper} {fuel:Nat} {listed:Array Bool} (hi:rg.toList.drop i=oi::rest) (hd:oi.dst=some d) (hn:d < s.n)
    (hr:Zd .any rg listed=[i]) (hg:oi.guard=some (j,want)) (hv:b01 s rg j want=some false) (h:b13 P L rg K fuel (listed.setIfInBounds i true) (s.set (some d) (.opt false .any))):b13 P L rg K (fuel+1) listed s:=by
  refine ⟨fun h0=>(by grind),fun j' hj o ho=> ?_⟩;rw [hr,qlm] at hj;subst hj;rw [c78 hi] at ho;cases ho;exact .inr ⟨by rw [hd];exact hn,j,want,false,hg,hv,nofun,fun _=>⟨.any,by grind⟩⟩
theorem c1f {s:St} {f:FuncId} {r:V} {K:V→Prop} {P args args'} (hc:Con P f args' [] r []) (ht:b1u s [] args=some args')
    (hr:r.only (fun _=>false)=true) (hcl:r.clean=true) (hk:K r):∃r,(b9g P s f [] args fun v s'=>v=r∧s'={s with O:=s.O++[]})∧K r:=
  ⟨r,b7h hc ht (.inl ⟨hcl,by simp⟩) ⟨b7a (by simp) hr,rfl⟩,hk⟩
theorem c2n {s:St} {f:FuncId} {r:V} {bk:Blk} {K:V→St→Prop} {P args args' bk' O'} (id:Nat) (hc:Con P f args' [bk] r (bk'::O')) (ht:b1u s [id] args=some args')
    (hO:s.O[id]? =some bk) (hbk:bk.kindIs (fun k=>k.nm)=true∧bk≠.dead) (hv:s.vw=false∨bk.kindIs (fun k=>k == .flat)=true)
    (hcl:r.clean=true∧∀b∈bk'::O',b.kindIs (fun k=>k != .shal && k.nm)=true) (hk:K (r.ren (rho [id] s.O.length)) {s with O:=s.O.set id bk'++O'}):b9g P s f [id] args K:=
  d2f ht (by grind) (by simp) (by grind) (hv.imp (fun h=>h) (fun h=>by grind)) hc (.inl hcl) (by simpa [b4p] using hk)
theorem d8m {xs:List V} {i:Nat} {y} (h:i < xs.length):(xs.set i y).getD i .any=y:=by
  grind
theorem b0v {s t:St} {i:Nat} {r:List V×Kd} (h:Grow s.O t.O) (e:(s.O[i]?).bind Blk.row=some r):t.row i=some r:=by
  unfold St.row;cases hb:s.O[i]? with
  | none=>grind
  | some b=>rw [hb] at e;rw [h i b hb];exact e
end Go.Vm
