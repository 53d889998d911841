/- The value machine, part 6. -/
import Derived.Test.YtmhaafinhpopmaaGreatUmE
set_option linter.unusedSimpArgs false
set_option linter.unusedVariables false
set_option linter.defProp false
namespace Go.Vm
open Go
theorem wrap64 {n:Int} (h:-9223372036854775808≤n) (h2:n≤9223372036854775807):IntKind.i64.wrap n=n:=by
  rw [IntKind.wrap_i64];omega
theorem getD_map {α:Type} {f:α→V} {l:List α} {i:Nat} {x:α} (h:l[i]? =some x):(l.map f).getD i .any=f x:=by
  grind
theorem look_nil (t:Nat):look t []=.any:=rfl
theorem look_cons (t k:Nat) (v:V) (l:List (Nat×V)):look t ((k,v)::l)=if t=k then v else look t l:=by
  grind[look,Nat.beq,Nat.eq_of_beq_eq_true,Nat.beq_refl]
def St.keep (ks:List Nat) (s:St):St:={s with env:=ks.map fun t=>(t,s.get t)}
def keepE (env:List (Nat×V)):List Nat→List (Nat×V)
  | []=>[]
  | t::ks=>(t,look t env)::keepE env ks
theorem keepE_eq (env:List (Nat×V)) (ks:List Nat):keepE env ks=ks.map fun t=>(t,look t env):=by
  induction ks with
  | nil=>rfl
  | cons t ks ih=>rw [keepE,ih];rfl
theorem keep_mk (ks:List Nat) (env:List (Nat×V)) (O:List Blk) (vw:Bool) (n m:Nat):St.keep ks ⟨env,O,vw,n,m⟩=⟨keepE env ks,O,vw,n,m⟩:=by
  rw [keepE_eq];rfl
theorem keepE_nil (env:List (Nat×V)):keepE env []=[]:=rfl
theorem keepE_cons (env:List (Nat×V)) (t:Nat) (ks:List Nat):keepE env (t::ks)=(t,look t env)::keepE env ks:=rfl
theorem look_map (f:Nat→V):∀(ks:List Nat) (t:Nat),look t (ks.map fun t=>(t,f t))=f t∨look t (ks.map fun t=>(t,f t))=.any
  | [],_=>.inr rfl
  | k::ks,t=>by
    rw [List.map_cons,look_cons]
    by_cases e:t=k
    · grind
    · rw [if_neg e];exact look_map f ks t
theorem weak_refl (m:Nat) (s:St):Weak m s s:=fun _ _ _ _ _ _ h=>⟨_,_,h⟩
theorem weak_trans {m:Nat} {s t u:St} (h:Weak m s t) (k:Weak m t u):Weak m s u:=fun cx a w μ ow hm hr=>
  let ⟨_,_,h1⟩:=h cx a w μ ow hm hr
  k cx a w _ _ hm h1
theorem weak_keep {m:Nat} (ks:List Nat) (s:St):Weak m s (s.keep ks):=fun _ _ _ _ _ _ h=>
  ⟨_,_,h.forget (m:=s.mask) fun t=>look_map s.get ks t⟩
theorem weak_of {m:Nat} {s s':St} (ks:List Nat) (e:s.keep ks=s'):Weak m s s':=e ▸ weak_keep ks s
theorem get_mk (env:List (Nat×V)) (O:List Blk) (vw:Bool) (n m t:Nat):St.get ⟨env,O,vw,n,m⟩ t=look t env:=rfl
theorem set_some (env:List (Nat×V)) (O:List Blk) (vw:Bool) (n m t:Nat) (v:V):St.set ⟨env,O,vw,n,m⟩ (some t) v=⟨(t,v)::env,O,vw,n,m⟩:=rfl
theorem set_none (s:St) (v:V):St.set s none v=s:=rfl
theorem ev_tmp (s:St) (t:Nat):s.ev (.tmp t)=s.get t:=rfl
theorem ev_const (s:St) (v:Value):s.ev (.const v)=V.ofValue v:=rfl
theorem ev_func (s:St) (f:Nat):s.ev (.func f)=.fn f []:=rfl
theorem dst_some (t n:Nat):dstOK (some t) n↔t < n:=Iff.rfl
theorem dst_none (n:Nat):dstOK none n↔True:=Iff.rfl
theorem row_mk (env:List (Nat×V)) (O:List Blk) (vw:Bool) (n m id:Nat):St.row ⟨env,O,vw,n,m⟩ id=(O[id]?).bind Blk.row:=rfl
theorem settle_int (n:Nat) (k:IntKind) (x:Int):settle n (.int k x)=(.int k x,[]):=rfl
theorem settle_bool (n:Nat) (x:Bool):settle n (.bool x)=(.bool x,[]):=rfl
theorem settle_str (n:Nat) (x:ByteArray):settle n (.str x)=(.str x,[]):=rfl
theorem settle_nsl (n:Nat):settle n .nsl=(.ref n,[.arr [] .flat]):=rfl
theorem settle_sl (n:Nat) (x:List V):settle n (.sl x)=(.sl x,[]):=rfl
theorem settle_ref (n id:Nat):settle n (.ref id)=(.ref id,[]):=rfl
theorem settle_sub (n id a b:Nat):settle n (.sub id a b)=(.sub id a b,[]):=rfl
theorem settle_ptr (n id a b:Nat):settle n (.ptr id a b)=(.ptr id a b,[]):=rfl
theorem settle_pv (n:Nat) (xs:List V) (a b:Nat):settle n (.pv xs a b)=(.pv xs a b,[]):=rfl
theorem settle_tup (n:Nat) (xs:List V):settle n (.tup xs)=(.tup xs,[]):=rfl
theorem settle_fn (n f:Nat) (xs:List V):settle n (.fn f xs)=(.fn f xs,[]):=rfl
theorem settle_npt (n:Nat):settle n .npt=(.npt,[]):=rfl
theorem settle_agg (n:Nat) (xs:List V):settle n (.agg xs)=(.agg (settleL n xs).1,(settleL n xs).2):=rfl
theorem settleL_nil (n:Nat):settleL n []=([],[]):=rfl
theorem settleL_nsl (n:Nat) (l:List V):settleL n (.nsl::l)=(.ref n::(settleL (n+1) l).1,.arr [] .flat::(settleL (n+1) l).2):=rfl
theorem settleL_int (n:Nat) (k:IntKind) (x:Int) (l:List V):settleL n (.int k x::l)=(.int k x::(settleL n l).1,(settleL n l).2):=rfl
theorem settleL_bool (n:Nat) (x:Bool) (l:List V):settleL n (.bool x::l)=(.bool x::(settleL n l).1,(settleL n l).2):=rfl
theorem settleL_str (n:Nat) (x:ByteArray) (l:List V):settleL n (.str x::l)=(.str x::(settleL n l).1,(settleL n l).2):=rfl
theorem settleL_sl (n:Nat) (x:List V) (l:List V):settleL n (.sl x::l)=(.sl x::(settleL n l).1,(settleL n l).2):=rfl
theorem settleL_ref (n x:Nat) (l:List V):settleL n (.ref x::l)=(.ref x::(settleL n l).1,(settleL n l).2):=rfl
mutual
theorem ren_only {p:Nat→Bool} {ρ:Nat→Nat} (hp:∀id,p id=true→ρ id=id):∀{v:V},v.only p=true→v.ren ρ=v
  | .int _ _,_ | .bool _,_ | .str _,_ | .nsl,_ | .sl _,_ | .pv _ _ _,_ | .npt,_ | .nfn,_ | .any,_=>by simp [V.ren]
  | .ref id,h=>by rw [V.only] at h;rw [V.ren,hp id h]
  | .sub id _ _,h=>by rw [V.only] at h;rw [V.ren,hp id h]
  | .ptr id _ _,h=>by rw [V.only] at h;rw [V.ren,hp id h]
  | .fn f cs,h=>by rw [V.only] at h;rw [V.ren,ren_onlyL hp h]
  | .agg cs,h=>by rw [V.only] at h;rw [V.ren,ren_onlyL hp h]
  | .tup cs,h=>by rw [V.only] at h;rw [V.ren,ren_onlyL hp h]
  | .opt g v,h=>by rw [V.only] at h;rw [V.ren,ren_only hp h]
theorem ren_onlyL {p:Nat→Bool} {ρ:Nat→Nat} (hp:∀id,p id=true→ρ id=id):∀{vs:List V},V.onlyL p vs=true→V.renL ρ vs=vs
  | [],_=>by rw [V.renL]
  | v::vs,h=>by rw [V.onlyL,qlo] at h;rw [V.renL,ren_only hp h.1,ren_onlyL hp h.2]
end
theorem refs1_only {v:V} (h:v.only (fun _=>false)=true):refs1 v=[]:=by
  cases v<;>simp_all [refs1,V.only]
theorem refs1s_only:∀{l:List V},V.onlyL (fun _=>false) l=true→l.flatMap refs1=[]
  | [],_=>rfl
  | v::l,h=>by rw [V.onlyL,qlo] at h;rw [qlz,refs1_only h.1,refs1s_only h.2];rfl
theorem refs2_only {v:V} (h:v.only (fun _=>false)=true):refs2 v=[]:=by
  cases v with
  | agg cs=>rw [V.only] at h;exact refs1s_only h
  | _=>exact refs1_only h
theorem refs2s_only:∀{l:List V},V.onlyL (fun _=>false) l=true→l.flatMap refs2=[]
  | [],_=>rfl
  | v::l,h=>by rw [V.onlyL,qlo] at h;rw [qlz,refs2_only h.1,refs2s_only h.2];rfl
theorem refsOf_only {v:V} (h:v.only (fun _=>false)=true):refsOf v=[]:=by
  cases v with
  | tup cs=>rw [V.only] at h;exact refs2s_only h
  | _=>exact refs2_only h
mutual
theorem only_mono {p q:Nat→Bool} (hp:∀id,p id=true→q id=true):∀{v:V},v.only p=true→v.only q=true
  | .int _ _,_ | .bool _,_ | .str _,_ | .nsl,_ | .sl _,_ | .pv _ _ _,_ | .npt,_ | .nfn,_ | .any,_=>by simp [V.only]
  | .ref id,h=>by rw [V.only] at h⊢;exact hp id h
  | .sub id _ _,h=>by rw [V.only] at h⊢;exact hp id h
  | .ptr id _ _,h=>by rw [V.only] at h⊢;exact hp id h
  | .fn f cs,h=>by rw [V.only] at h⊢;exact onlyL_mono hp h
  | .agg cs,h=>by rw [V.only] at h⊢;exact onlyL_mono hp h
  | .tup cs,h=>by rw [V.only] at h⊢;exact onlyL_mono hp h
  | .opt g v,h=>by rw [V.only] at h⊢;exact only_mono hp h
theorem onlyL_mono {p q:Nat→Bool} (hp:∀id,p id=true→q id=true):∀{vs:List V},V.onlyL p vs=true→V.onlyL q vs=true
  | [],_=>by rw [V.onlyL]
  | v::vs,h=>by rw [V.onlyL,qlo] at h⊢;exact ⟨only_mono hp h.1,onlyL_mono hp h.2⟩
end
theorem look_ren (ρ:Nat→Nat):∀(l:List (Nat×V)) (t:Nat),look t (l.map fun p=>(p.1,p.2.ren ρ))=(look t l).ren ρ
  | [],_=>by rfl
  | (k,v)::l,t=>by
    rw [List.map_cons,look_cons,look_cons,look_ren ρ l t];split<;>rfl
theorem look_only {p:Nat→Bool}:∀{l:List (Nat×V)},(∀q∈l,q.2.only p=true)→∀t,(look t l).only p=true
  | [],_,t=>by rfl
  | (k,v)::l,h,t=>by
    rw [look_cons];split
    · simp_all
    · exact look_only (fun q hq=>h q (qlg _ hq)) t
def St.comp (ids:List Nat) (s:St):St:={s with env:=s.env.map fun p=>(p.1,p.2.ren fun id=>(idx ids id).getD 0),O:=ids.map fun id=>s.O.getD id .dead}
theorem weak_comp {m:Nat} {s:St} (ids:List Nat) (hn:ids.Nodup) (hm:∀j,j < m→ids[j]? =some j) (he:∀p∈s.env,p.2.only (fun id=>(idx ids id).isSome)=true)
    (hb:∀id∈ids,∀bk,s.O[id]? =some bk→bk.kindIs (fun k=>k.nm)=true):Weak m s (s.comp ids):=by
  intro cx a w μ ow hmu h;let ρ:Nat→Nat:=fun id=>(idx ids id).getD 0
  let μ':Nat→Option Loc:=fun j=>(ids[j]?).bind μ
  let ow':Ow:=fun b=>match ow b with
    | some (r,id)=>(idx ids id).map fun j=>(r,j)
    | none=>none
  have o0:∀b,ow b=none→ow' b=none:=fun b e=>by simp [ow',e]
  have o1:∀b id,ow b=some (false,id)→ow' b=none∨∃id',ow' b=some (false,id'):=fun b id e=>by
    cases q:idx ids id with
    | none=>exact .inl (by simp [ow',e,q])
    | some j=>exact .inr ⟨j,by simp [ow',e,q]⟩
  have oin:∀b r id j,ow b=some (r,id)→idx ids id=some j→ow' b=some (r,j):=fun b r id j e q=>by simp [ow',e,q]
  have one:∀b,ow' b≠none→ow b≠none:=fun b hb e=>hb (o0 b e)
  have hμ:∀id l,(idx ids id).isSome=true→μ id=some l→μ' (ρ id)=some l:=by
    intro id l hs e;obtain ⟨j,hj⟩:=qmb.1 hs;have:=idx_spec hj;simp [μ',ρ,hj,this,e]
  refine ⟨μ',ow',h.dfr,h.sz,fun t=> ?_,fun j bk e=> ?_,fun j hj=> ?_,fun b hb=>h.owl b (one b hb),fun b hb=>h.own b (one b hb),h.frm,fun id l e=> ?_⟩
  · obtain ⟨bl,r1,r2⟩:=h.env t
    show ∃bl,Rep w μ' (look t (s.env.map _)) _ bl∧_;rw [look_ren];let μ2:Nat→Option Loc:=fun id=>if (idx ids id).isSome then μ id else none
    have r1':Rep w μ2 (look t s.env) (a.tmps.getD t undef) bl:=Rep.only (p:=fun id=>(idx ids id).isSome) (fun id l hp e=>by simp only [μ2,hp,if_true];exact e) r1 (look_only he t);refine ⟨bl,Rep.ren (ρ:=ρ) (fun id l e=> ?_) r1',fun b hb=>(r2 b hb).mono2 (o0 b) (o1 b)⟩
    by_cases q:(idx ids id).isSome=true
    · exact hμ id l q (by simpa [μ2,q] using e)
    · simp [μ2,q] at e
  · have e':(ids[j]?).map (fun id=>s.O.getD id .dead)=some bk:=by rw [←List.getElem?_map];exact e
    rw [Option.map_eq_some_iff] at e';obtain ⟨id,hid,hbk⟩:=e';have hix:idx ids id=some j:=idx_get hn hid;cases hO:s.O[id]? with
    | none=>
      rw [qld,hO] at hbk;simp only [Option.getD_none] at hbk;subst hbk;trivial
    | some bk'=>
      rw [qld,hO] at hbk;simp only [Option.getD_some] at hbk;subst hbk;have hblk:=h.blk id bk' hO;have hbm:=hb id (qlb hid) bk' hO;have key:∀xs k,k.nm=true→RowOK cx w μ ow s.vw id xs k→RowOK cx w μ' ow' s.vw j xs k:=by
        intro xs k hk ⟨l,q1,q2,q3⟩;have q1':μ' j=some l:=by simp [μ',hid,q1]
        refine ⟨l,q1',q2,?_⟩;rcases q3 with q3 | ⟨q3,q4,bl2,q5,q6,q7⟩
        · exact .inl q3
        · refine .inr ⟨q3,oin _ _ _ _ q4 hix,bl2,by rw [mu_ne_mix hk];rw [mu_ne_mix hk] at q5;exact q5,?_,q7⟩
          cases k with
          | flat | thin=>exact q6
          | deep=>exact ⟨q6.1,fun b hb=>oin _ _ _ _ (q6.2 b hb) hix⟩
          | shal=>exact fun b hb=>(q6 b hb).mono2 (o0 b) (o1 b)
          | mix | part=>exact absurd hk (by decide)
      cases bk' with
      | dead=>trivial
      | hid j' n'=>simp [Blk.kindIs] at hbm
      | arr xs k=>exact key xs k (by simpa [Blk.kindIs] using hbm) hblk
      | box x k=>exact key [x] k (by simpa [Blk.kindIs] using hbm) hblk
  · have:ids[j]? =none:=qlp (by simpa [St.comp] using hj)
    simp [μ',this]
  · have hlt:id < m:=by
      rcases qly id m with q | q
      · exact q
      · rw [hmu id q] at e;cases e
    have:=h.mu id l e;simp [μ',hm id hlt,this]
theorem weak_both {m:Nat} {s s':St} (ks ids:List Nat) (hn:ids.Nodup) (hm:∀j,j < m→ids[j]? =some j) (he:∀p∈(s.keep ks).env,p.2.only (fun id=>(idx ids id).isSome)=true)
    (hb:∀id∈ids,∀bk,s.O[id]? =some bk→bk.kindIs (fun k=>k.nm)=true) (e:(s.keep ks).comp ids=s'):Weak m s s':=
  e ▸ weak_trans (weak_keep ks s) (weak_comp ids hn hm he hb)
section
variable {P:Program} {L:Lend} {m:Nat} {Q:AEx→St→Prop} {s:St}
theorem v_seq {x y:Code} (h:∀Q':AEx→St→Prop,(∀s s₁,Weak m s s₁→awp P L m y Q s₁→Q' .normal s)→(∀i s,Q (.exit i) s→Q' (.exit i) s)→(∀s,Q .ret s→Q' .ret s)→awp P L m x Q' s) :
    awp P L m (.seq x y) Q s:=
  h _ (fun _ s₁ hw h=>⟨s₁,hw,h⟩) (fun _ _ h=>h) (fun _ h=>h)
theorem v_region {id:Nat} {ops:Array Oper} (h:∀K:St→Prop,(∀s,Q .normal s→K s)→aOps P L ops K ops.toList s):awp P L m (.region id ops false) Q s:=
  h _ fun _ h=>h
theorem v_block {id:Nat} {x:Code} (h:∀Q':AEx→St→Prop,(∀s,Q .normal s→Q' .normal s)→(∀s,Q .normal s→Q' (.exit id) s)→(∀i s,i≠id→Q (.exit i) s→Q' (.exit i) s)→(∀s,Q .ret s→Q' .ret s)→awp P L m x Q' s) :
    awp P L m (.block id x) Q s:=
  h _ (fun _ h=>h) (fun s h=>by grind) (fun i s hi h=>by grind) (fun _ h=>h)
theorem v_cond {c:Operand} {x y:Code} (b:Bool) (hc:s.ev c=.bool b) (h1:b=true→awp P L m x Q s) (h2:b=false→awp P L m y Q s):awp P L m (.cond c x y) Q s:=by
  grind[awp]
theorem v_skip (h:Q .normal s):awp P L m .skip Q s:=h
theorem v_exit {i:Nat} (h:Q (.exit i) s):awp P L m (.exit i) Q s:=h
theorem v_ret (h:Q .ret s):awp P L m .ret Q s:=h
theorem v_loop {x:Code} {α:Type} (I:α→St) (ok:α→Prop) (mu:α→Nat) (a:α) (h0:Weak m s (I a)) (ha:ok a)
    (h:∀a,ok a→∀Q':AEx→St→Prop,(∀s b,Weak m s (I b)→ok b→mu b < mu a→Q' .normal s)→(∀i s,Q (.exit i) s→Q' (.exit i) s)→(∀s,Q .ret s→Q' .ret s)→awp P L m x Q' (I a)) :
    awp P L m (.loop x) Q s:=by
  have key:∀n,∀a,ok a→mu a < n→∀s,Weak m s (I a)→loopN m (awp P L m x) Q n s:=by
    intro n
    induction n with
    | zero=>simp
    | succ n ih=>
      intro a ha hn s hw;refine ⟨I a,hw,h a ha _ (fun s b hw hb hlt=>ih b hb (by omega) s hw) (fun _ _ h=>h) (fun _ h=>h)⟩
  exact ⟨mu a+1,key _ a ha (Nat.lt_succ_self _) s h0⟩
theorem v_op {rg:Array Oper} {K:St→Prop} {o:Oper} {rest:List Oper} (h:∀K':St→Prop,(∀s,aOps P L rg K rest s→K' s)→aStepM P L rg o s K'):aOps P L rg K (o::rest) s:=
  .inl (h _ fun _ h=>h)
theorem v_pass {rg:Array Oper} {K:St→Prop} {o:Oper} {rest:List Oper} (d:Nat) (j:Nat) (want:Bool) (hd:o.dst=some d) (hn:d < s.n) (hg:o.guard=some (j,want)) (hv:guardV s rg j want=some false) (h:aOps P L rg K rest (s.set (some d) (.opt false .any))):aOps P L rg K (o::rest) s:=
  .inr (.inl ⟨by rw [hd];exact hn,j,want,false,hg,hv,nofun,fun _=>⟨.any,by rw [hd];exact h⟩⟩)
theorem aCall_new {f:FuncId} {args args':List V} {r:V} {O':List Blk} {K:V→St→Prop} (hc:Con P f args' [] r O') (ht:toArgs s [] args=some args')
    (hcl:(r.clean=true∧∀bk∈O',bk.kindIs (fun k=>k != .shal && k.nm)=true)∨(∀x∈args,x.cold=true)) (hk:K (r.ren (rho [] s.O.length)) {s with O:=s.O++O'}):aCall P s f [] args K:=
  aCall_of ht rfl List.nodup_nil (by simp) (.inr (by simp)) hc (hcl.imp id fun h x hx=>cold_in (h x hx)) (by unfold setBlks;grind)
theorem aCall_guard {f:FuncId} {args args':List V} {r:V} {K:V→Prop} {G A:Prop} (hg:G→A) (hc:G→Con P f args' [] r []) (ht:toArgs s [] args=some args')
    (hr:r.only (fun _=>false)=true) (hcl:r.clean=true) (hk:K r):∃r,(G→A∧aCall P s f [] args fun v s'=>v=r∧s'={s with O:=s.O++[]})∧K r:=
  ⟨r,fun g=>⟨hg g,aCall_new (hc g) ht (.inl ⟨hcl,by simp⟩) ⟨ren_only (by simp) hr,rfl⟩⟩,hk⟩
end
theorem ret_pure {s:St} {v r:V} (hv:v.only (fun _=>false)=true) (e:v=r) (h:s.vw=false∨v.clean=true):RetOK 0 s v r []:=by
  subst e;have hr:=refsOf_only hv;refine ⟨⟨only_mono (by simp) hv,by grind,qlk _⟩,(ren_only (by simp) hv).symm,by grind,by simp,?_⟩
  grind
theorem ret_lent {s:St} {m:Nat} {v r:V} {O':List Blk} (hv:v.only (fun _=>false)=true) (hm:m≤s.O.length) (e:v=r) (hO:s.O.take m=O') (hk:∀bk∈O',bk.kindIs (fun k=>k != .shal && k.nm)=true) (h:s.vw=false∨v.clean=true) :
    RetOK m s v r O':=by
  subst e;have hr:=refsOf_only hv;refine ⟨⟨only_mono (by simp) hv,by rw [hr];exact List.nodup_nil,hm⟩,(ren_only (by simp) hv).symm,by rw [hr];simp [hO],fun bk hb=> ?_,h.imp id fun q=>⟨q,hk⟩⟩;have:=hk bk hb;cases bk with
  | dead=>simp [Blk.kindIs] at this⊢
  | hid j' n'=>simp [Blk.kindIs] at this
  | arr xs k=>cases k<;>simp_all [Blk.kindIs,Kd.nm]
  | box x k=>cases k<;>simp_all [Blk.kindIs,Kd.nm]
theorem ret_ref {s:St} {k:Nat} {xs:List V} {kd:Kd} (hO:s.O[k]? =some (.arr xs kd)) (hk:kd=.flat∨kd=.deep):RetOK 0 s (.ref k) (.ref 0) [.arr xs kd]:=by
  have hf:(refsOf (.ref k)).filter (fun id=>Nat.ble 0 id)=[k]:=by rfl
  unfold RetOK;simp only [hf];refine ⟨⟨by simp [V.only,idx],by simp,qlk _⟩,by simp [V.ren,outNo,idx],by grind,?_,.inr ⟨by rfl,?_⟩⟩<;>rcases hk with rfl | rfl<;>simp [Blk.kindIs]
theorem ret_ref_tup {s:St} {k:Nat} {xs:List V} {kd:Kd} {v:V} (hv:v.only (fun _=>false)=true) (hc:v.noSl=true) (hO:s.O[k]? =some (.arr xs kd)) (hk:kd=.flat∨kd=.deep) :
    RetOK 0 s (.tup [.ref k,v]) (.tup [.ref 0,v]) [.arr xs kd]:=by
  have hr:refs2 v=[]:=refs2_only hv;have hf:(refsOf (.tup [.ref k,v])).filter (fun id=>Nat.ble 0 id)=[k]:=by
    show List.filter _ (refs2 (.ref k)++(refs2 v++[]))=[k]
    simp_all[refs2,refs1]
  unfold RetOK;simp only [hf];refine ⟨⟨by simp [V.only,V.onlyL,idx];grind[only_mono],by simp,qlk _⟩,by simp [V.ren,V.renL,outNo,idx];grind[ren_only],by grind,?_,.inr ⟨by show (V.noSl (.ref k) && (V.noSl v && true))=true;rw [hc];rfl,?_⟩⟩<;>rcases hk with rfl | rfl<;>simp [Blk.kindIs]
def fillTo {α:Type} (f:α→V) (z:V) (l:List α) (i:Nat):List V:=(l.take i).map f++List.replicate (l.length - i) z
theorem fill_all {α:Type} {f:α→V} {z:V} {l:List α} {i n:Nat} (hf:∀a,(f a).cells.length=n) (hz:z.cells.length=n):∀x∈fillTo f z l i,x.cells.length=n:=by
  intro x hx;rw [fillTo,qll] at hx
  grind
def fillK (i:Nat):Kd:=if i=0 then .flat else .deep
theorem fillK_fd (i:Nat):(fillK i != .shal && (fillK i).nm)=true:=by unfold fillK;split<;>rfl
theorem fillK_mix (i:Nat):(fillK i).nm=true:=by unfold fillK;split<;>rfl
def thK (n:Nat):Kd:=if n=0 then .thin else .deep
theorem thK_fd (i:Nat):(thK i != .shal && (thK i).nm)=true:=by unfold thK;split<;>rfl
theorem thK_mix (i:Nat):(thK i).nm=true:=by unfold thK;split<;>rfl
theorem fillK_join (i:Nat):kdJoin (fillK i) true false=some (fillK (i+1)):=by grind[fillK,kdJoin]
theorem fillK_join0 (i:Nat):kdJoin (fillK i) false false=some (fillK i):=by unfold fillK;split<;>rfl
theorem join_ff:kdJoin .flat false false=some .flat:=rfl
theorem join_ft:kdJoin .flat true false=some .deep:=rfl
theorem join_fv:kdJoin .flat false true=some .shal:=rfl
theorem join_d (b:Bool):kdJoin .deep b false=some .deep:=by cases b<;>rfl
theorem join_p (m v:Bool):kdJoin .part m v=none:=by cases m<;>cases v<;>rfl
theorem join_s (b:Bool):kdJoin .shal false b=some .shal:=by cases b<;>rfl
theorem fillK_or (i:Nat):fillK i=.flat∨fillK i=.deep:=by grind[fillK]
theorem v_con {P:Program} {f:FuncId} {fn:Func} {c:Code} {args:List V} {O:List Blk} {r:V} {O':List Blk} (rs:List ResultVar) (L:Lend) (hf:P.funcs[f]? =some fn) (hname:(fn.name == "runtime.NumGoroutine")=false)
    (hb:fn.body=some c) (hts:fn.results=rs.toArray) (hn:args.length≤fn.ntmps)
    (h:∀Q:AEx→St→Prop,(∀s,(resK P s rs fun vs vw=>RetOK O.length {s with vw:=vw} (pickRV vs) r O')→Q .normal s)→(∀s,(resK P s rs fun vs vw=>RetOK O.length {s with vw:=vw} (pickRV vs) r O')→Q .ret s)→
      awp P L O.length c Q ⟨envFrom 0 args,O,false,fn.ntmps,0⟩):Con P f args O r O':=
  ConX.con (con_of_awpW (R:=isR r O') rs L 0 hf hname hb hts hn (weak_refl _ _) (h (fun e s=>match e with | .exit _=>False | _=>∃s2,Weak O.length s s2∧resK P s2 rs fun vs vw=>∃r' O'',isR r O' r' O''∧RetOK O.length {s2 with vw:=vw} (pickRV vs) r' O'')
    (fun s q=>⟨s,weak_refl _ _,resK_mono (fun _ _ z=>⟨r,O',⟨rfl,rfl⟩,z⟩) q⟩) (fun s q=>⟨s,weak_refl _ _,resK_mono (fun _ _ z=>⟨r,O',⟨rfl,rfl⟩,z⟩) q⟩)))
theorem v_conX {P:Program} {f:FuncId} {fn:Func} {c:Code} {args:List V} {O:List Blk} {R:V→List Blk→Prop} (rs:List ResultVar) (L:Lend) (hf:P.funcs[f]? =some fn) (hname:(fn.name == "runtime.NumGoroutine")=false)
    (hb:fn.body=some c) (hts:fn.results=rs.toArray) (hn:args.length≤fn.ntmps)
    (h:∀Q:AEx→St→Prop,(∀s,(resK P s rs fun vs vw=>∃r O',R r O'∧RetOK O.length {s with vw:=vw} (pickRV vs) r O')→Q .normal s)→(∀s,(resK P s rs fun vs vw=>∃r O',R r O'∧RetOK O.length {s with vw:=vw} (pickRV vs) r O')→Q .ret s)→
      awp P L O.length c Q ⟨envFrom 0 args,O,false,fn.ntmps,0⟩):ConX P f args O R:=
  con_of_awpW rs L 0 hf hname hb hts hn (weak_refl _ _) (h (fun e s=>match e with | .exit _=>False | _=>∃s2,Weak O.length s s2∧resK P s2 rs fun vs vw=>∃r O',R r O'∧RetOK O.length {s2 with vw:=vw} (pickRV vs) r O')
    (fun s q=>⟨s,weak_refl _ _,q⟩) (fun s q=>⟨s,weak_refl _ _,q⟩))
end Go.Vm
namespace Go.Vm
open Go
section
variable {P:Program} {L:Lend} {s:St} {E:List (Nat×V)} {nid:Nat} {o:Oper} {rg:Array Oper}
def St.wE (s:St) (E:List (Nat×V)):St:={s with env:=E}
theorem takeCell_env (v:V):takeCell (s.wE E) v=takeCell s v:=by cases v<;>rfl
theorem takeCells_env:∀cs:List V,takeCells (s.wE E) cs=takeCells s cs
  | []=>rfl
  | c::cs=>by rw [takeCells,takeCells,takeCell_env,takeCells_env cs]
theorem takeV_env (v:V):takeV (s.wE E) v=takeV s v:=by
  cases v<;>first | rfl | grind[takeV,takeCells_env]
theorem toCell_env (ls:List Nat) (v:V):toCell (s.wE E) ls v=toCell s ls v:=by cases v<;>rfl
theorem toCells_env (ls:List Nat):∀cs:List V,toCells (s.wE E) ls cs=toCells s ls cs
  | []=>rfl
  | c::cs=>by rw [toCells,toCells,toCell_env,toCells_env ls cs]
theorem row_env (id:Nat):(s.wE E).row id=s.row id:=rfl
theorem toRows_env:∀xs:List V,toRows (s.wE E) xs=toRows s xs
  | []=>rfl
  | .agg cs::xs=>by rw [toRows,toRows,toCells_env,toRows_env xs]
  | .int _ _::_ | .bool _::_ | .str _::_ | .nsl::_ | .sl _::_ | .ref _::_ | .sub _ _ _::_ | .ptr _ _ _::_ | .pv _ _ _::_
  | .npt::_ | .fn _ _::_ | .nfn::_ | .tup _::_ | .opt _ _::_ | .any::_=>rfl
theorem toArg_env (ls:List Nat) (v:V):toArg (s.wE E) ls v=toArg s ls v:=by
  match v with
  | .ref id=>simp[toArg,toCell_env,toRows_env,row_env]
  | .ptr id 0 off=>simp[toArg,toCell_env,toCells_env,row_env]
  | .ptr id (i+1) off=>rfl
  | .agg cs=>simp only [toArg,toCells_env]
  | .fn f cs=>simp only [toArg,toCells_env]
  | .int _ _ | .bool _ | .str _ | .nsl | .sl _ | .sub _ _ _ | .pv _ _ _ | .npt | .nfn | .tup _ | .opt _ _ | .any=>rfl
theorem toArgs_env (ls:List Nat):∀cs:List V,toArgs (s.wE E) ls cs=toArgs s ls cs
  | []=>rfl
  | c::cs=>by rw [toArgs,toArgs,toArg_env,toArgs_env ls cs]
theorem aop_env {op:Op} {G:Bool} {K:KV} (he:∀x∈op.operands,(s.wE E).ev x=s.ev x):aop P (s.wE E) nid G op K=aop P s nid G op K:=by
  cases op with
  | move x=>have h:=he x (by simp [Op.operands]);simp only [aop,h];rfl
  | assign x=>have h:=he x (by simp [Op.operands]);simp only [aop,h];rfl
  | pick c x y=>
    have h1:=he c (by simp [Op.operands]);have h2:=he x (by simp [Op.operands]);have h3:=he y (by simp [Op.operands]);simp only [aop,h1,h2,h3];rfl
  | alloc T=>rfl
  | box T x=>have h:=he x (by simp [Op.operands]);simp only [aop,h];rfl
  | build T ps=>
    have e1:(ps.toList.map fun p=>(p.1,((s.wE E).ev p.2).un))=ps.toList.map fun p=>(p.1,(s.ev p.2).un):=
      List.map_congr_left fun p hp=>by rw [he p.2 (by simp only [Op.operands,List.mem_toArray,List.mem_map];grind)]
    have e2:(∀p∈ps.toList,((s.wE E).ev p.2).gd=true∧((s.wE E).ev p.2).un.isVal=true)=∀p∈ps.toList,(s.ev p.2).gd=true∧(s.ev p.2).un.isVal=true:=by
      apply propext;constructor
      · intro h p hp;have:=h p hp;rwa [he p.2 (by simp only [Op.operands,List.mem_toArray,List.mem_map];grind)] at this
      · intro h p hp;rw [he p.2 (by simp only [Op.operands,List.mem_toArray,List.mem_map];grind)];grind
    simp only [aop,e1,e2];rfl
  | buildSlice T n ps=>
    have e1:(ps.toList.map fun p=>(p.1,((s.wE E).ev p.2).un))=ps.toList.map fun p=>(p.1,(s.ev p.2).un):=
      List.map_congr_left fun p hp=>by rw [he p.2 (by simp only [Op.operands,List.mem_toArray,List.mem_map];grind)]
    have e2:(∀p∈ps.toList,((s.wE E).ev p.2).gd=true)=∀p∈ps.toList,(s.ev p.2).gd=true:=by
      apply propext;constructor
      · intro h p hp;have:=h p hp;rwa [he p.2 (by simp only [Op.operands,List.mem_toArray,List.mem_map];grind)] at this
      · intro h p hp;rw [he p.2 (by simp only [Op.operands,List.mem_toArray,List.mem_map];grind)];grind
    simp only [aop,e1,e2];rfl
  | load T x=>have h:=he x (by simp [Op.operands]);simp only [aop,h];rfl
  | nilCheck x=>have h:=he x (by simp [Op.operands]);simp only [aop,h];rfl
  | binOp op xt x y yt=>
    have h1:=he x (by simp [Op.operands]);have h2:=he y (by simp [Op.operands]);simp only [aop,h1,h2];rfl
  | unOp op t x=>have h:=he x (by simp [Op.operands]);simp only [aop,h];rfl
  | convert a b x=>have h:=he x (by simp [Op.operands]);simp only [aop,h];rfl
  | makeFunc fn first cap=>
    cases fn with
    | func f=>
      have e1:cap.toList.map (s.wE E).ev=cap.toList.map s.ev:=List.map_congr_left fun x hx=>he x (by grind[Op.operands])
      simp only [aop,e1];rfl
    | _=>rfl
  | makeSlice t l c=>
    have h1:=he l (by simp [Op.operands]);have h2:=he c (by simp [Op.operands]);simp only [aop,h1,h2];rfl
  | slice t x lo hi mx=>
    have h1:=he x (by simp [Op.operands]);have e1:(lo.map fun y=>((s.wE E).ev y).un)=lo.map fun y=>(s.ev y).un:=by
      cases lo with
      | none=>rfl
      | some y=>grind[Op.operands]
    have e2:(hi.map fun y=>((s.wE E).ev y).un)=hi.map fun y=>(s.ev y).un:=by
      cases hi with
      | none=>rfl
      | some y=>grind[Op.operands]
    have e3:(∀y,lo=some y→((s.wE E).ev y).gd=true)=∀y,lo=some y→(s.ev y).gd=true:=by
      grind[Op.operands]
    have e4:(∀y,hi=some y→((s.wE E).ev y).gd=true)=∀y,hi=some y→(s.ev y).gd=true:=by
      grind[Op.operands]
    simp only [aop,h1,e1,e2,e3,e4];rfl
  | fieldAddr t x f=>have h:=he x (by simp [Op.operands]);simp only [aop,h];rfl
  | field t x f=>have h:=he x (by simp [Op.operands]);simp only [aop,h];rfl
  | indexAddr t x i=>
    have h1:=he x (by simp [Op.operands]);have h2:=he i (by simp [Op.operands]);simp only [aop,h1,h2];rfl
  | index t x i=>
    have h1:=he x (by simp [Op.operands]);have h2:=he i (by simp [Op.operands]);simp only [aop,h1,h2];rfl
  | extract x i=>have h:=he x (by simp [Op.operands]);simp only [aop,h];rfl
  | call c=>
    obtain ⟨callee,args,tys⟩:=c;cases callee with
    | value f=>rfl
    | invoke r m=>rfl
    | builtin b=>
      have hm:∀x∈args,(s.wE E).ev x=s.ev x:=fun x hx=>he x (by grind[Op.operands,Call.operands])
      have hl:(args.toList.map fun x=>((s.wE E).ev x).un)=args.toList.map fun x=>(s.ev x).un:=List.map_congr_left fun x hx=>by grind
      have hg:(∀x∈args.toList,((s.wE E).ev x).gd=true)=∀x∈args.toList,(s.ev x).gd=true:=by
        grind
      by_cases h0:args.size=1
      · have hd:(s.wE E).ev (args.getD 0 default)=s.ev (args.getD 0 default):=hm _ (by simp [h0])
        cases b<;>first | rfl | (simp only [aop,hl,hg];done) | (simp only [aop,hl,hg];rfl) | (simp only [aop,hd];rfl)
      · cases b<;>first | rfl | (simp only [aop,hl,hg];done) | (simp only [aop,hl,hg];rfl) | simp_all[aop,false_and]
  | _=>rfl
def Eq' (rg:Array Oper) (o:Oper) (s:St) (E:List (Nat×V)):Prop:=∀t∈o.looksAt rg,look t E=s.get t
theorem Eq'.ev {rg:Array Oper} (h:Eq' rg o s E):∀x∈o.op.operands,(s.wE E).ev x=s.ev x:=by
  intro x hx;cases x with
  | tmp t=>exact h t (qmc _ (List.mem_filterMap.2 ⟨.tmp t,by grind,rfl⟩))
  | const v=>rfl
  | global g=>rfl
  | func f=>rfl
theorem guardV_env {rg:Array Oper} {j:Nat} {want:Bool} (h:Eq' rg o s E) (hg:o.guard=some (j,want)):guardV (s.wE E) rg j want=guardV s rg j want:=by
  unfold guardV;cases hd:(rg[j]?).bind (·.dst) with
  | none=>rfl
  | some d=>
    have:(s.wE E).get d=s.get d:=h d (qmk _ (by grind))
    grind
theorem aStore_env {T:TypeId} {F:St→Prop} (p v:V):aStore P (s.wE E) T F p v=aStore P s T (fun s'=>F (s'.wE E)) p v:=by
  unfold aStore;cases p<;>simp only [takeV_env]<;>rfl
theorem destOf_env (v:V):destOf (s.wE E) v=destOf s v:=by cases v<;>rfl
theorem takeElems_env:∀cs:List V,takeElems (s.wE E) cs=takeElems s cs
  | []=>rfl
  | c::cs=>by rw [takeElems,takeElems,takeV_env,takeElems_env cs]
theorem srcOf_env (v:V):srcOf (s.wE E) v=srcOf s v:=by cases v<;>first | rfl | grind[srcOf,row_env,takeElems_env]
theorem aAppend_env {t:TypeId} {F:V→St→Prop} (d x:V):aAppend P (s.wE E) t F d x=aAppend P s t (fun v s'=>F v (s'.wE E)) d x:=by
  unfold aAppend;rw [destOf_env,srcOf_env];rfl
theorem aClear_env {t:TypeId} {F:St→Prop} (v:V):aClear P (s.wE E) t F v=aClear P s t (fun s'=>F (s'.wE E)) v:=by
  rfl
theorem dstRng_env (v:V):dstRng (s.wE E) v=dstRng s v:=by cases v<;>rfl
theorem aCopy_env {t:TypeId} {F:V→St→Prop} (d x:V):aCopy P (s.wE E) t F d x=aCopy P s t (fun v s'=>F v (s'.wE E)) d x:=by
  unfold aCopy;rw [dstRng_env,srcOf_env];rfl
theorem aCall_env {f:FuncId} {ls:List Nat} {args:List V} {F:V→St→Prop}:aCall P (s.wE E) f ls args F=aCall P s f ls args (fun v s'=>F v (s'.wE E)):=by
  have e0:∀(s:St),aCall0 P (s.wE E) f ls args F=aCall0 P s f ls args (fun v s'=>F v (s'.wE E)):=by
    intro s;unfold aCall0;simp only [toArgs_env];rfl
  have e:∀O1,aCall0 P {s.wE E with O:=O1} f ls args F=aCall0 P {s with O:=O1} f ls args (fun v s'=>F v (s'.wE E)):=fun O1=>e0 {s with O:=O1}
  have eS:aCallS P (s.wE E) f ls args F=aCallS P s f ls args (fun v s'=>F v (s'.wE E)):=by
    unfold aCallS;simp only [toArgs_env];rfl
  unfold aCall;simp only [e,eS];rfl
theorem aKeep_env {t:TypeId} {F:V→St→Prop} (d x:V):aKeep P (s.wE E) t F d x=aKeep P s t (fun v s'=>F v (s'.wE E)) d x:=by
  unfold aKeep;rw [srcOf_env];rfl
theorem aKeepOp_env {rg:Array Oper} {K:V→St→Prop} (h:Eq' rg o s E):aKeepOp P (s.wE E) o K=aKeepOp P s o (fun v s'=>K v (s'.wE E)):=by
  have he:=h.ev;unfold aKeepOp;split
  · rename_i args tys ho
    rw [ho] at he
    by_cases h0:args.size=2
    · have h1:=he (args.getD 0 default) (by simp only [Op.operands,Call.operands,Array.mem_append];exact .inr (by simp [h0]))
      have h2:=he (args.getD 1 default) (by simp only [Op.operands,Call.operands,Array.mem_append];exact .inr (by simp [h0]));rw [h1,h2,aKeep_env]
    · simp only [h0,false_and]
  · rfl
theorem aExec_env {rg:Array Oper} {K:V→St→Prop} (h:Eq' rg o s E):aExec P L (s.wE E) o K=aExec P L s o (fun v s'=>K v (s'.wE E)):=by
  have he:=h.ev;unfold aExec;split
  · grind[Op.operands,aStore_env]
  · rename_i args tys ho
    rw [ho] at he
    by_cases h0:args.size=2
    · simp_all[default,Op.operands,Call.operands,Array.mem_append,aAppend_env]
    grind
  · rename_i args tys ho
    rw [ho] at he
    by_cases h0:args.size=2
    · simp_all[default,Op.operands,Call.operands,Array.mem_append,aCopy_env]
    grind
  · rename_i args tys ho
    rw [ho] at he
    by_cases h0:args.size=1
    · simp_all[default,Op.operands,Call.operands,Array.mem_append,aClear_env]
    grind
  · rename_i f args tys ho
    rw [ho] at he;have h1:=he f (by simp [Op.operands,Call.operands]);have hm:∀x∈args,(s.wE E).ev x=s.ev x:=fun x hx=>he x (by grind[Op.operands,Call.operands])
    have hl:(args.toList.map fun x=>((s.wE E).ev x).un)=args.toList.map fun x=>(s.ev x).un:=List.map_congr_left fun x hx=>by grind
    have hg:(∀x∈args.toList,((s.wE E).ev x).gd=true)=∀x∈args.toList,(s.ev x).gd=true:=by
      grind
    grind[aCall_env]
  · rw [aop_env he]
    rfl
theorem aBin_mono {G:Bool} {op:BinOp} {xt:TypeId} {vw:Bool} {K K':KV} (hK:∀v new vw,K v new vw→K' v new vw) {x y:V} (h:aBin P G op xt vw K x y):aBin P G op xt vw K' x y:=by
  unfold aBin at h⊢;split at h
  · obtain ⟨h0,h⟩:=h
    refine ⟨h0,?_⟩;cases op<;>first | grind | grind | grind | exact ⟨h.1,h.2.1,hK _ _ _ h.2.2⟩ | exact ⟨h.1,h.2.1,h.2.2.1,hK _ _ _ h.2.2.2⟩ | exact ⟨h.1,h.2.1,h.2.2.1,h.2.2.2.1,hK _ _ _ h.2.2.2.2⟩ | exact ⟨h.1,h.2.1,h.2.2.1,h.2.2.2.1,h.2.2.2.2.1,h.2.2.2.2.2.1,h.2.2.2.2.2.2.1,hK _ _ _ h.2.2.2.2.2.2.2⟩
  · cases op<;>first | grind | grind | grind | exact ⟨h.1,h.2.1,hK _ _ _ h.2.2⟩ | exact ⟨h.1,h.2.1,h.2.2.1,hK _ _ _ h.2.2.2⟩ | exact ⟨h.1,h.2.1,h.2.2.1,h.2.2.2.1,hK _ _ _ h.2.2.2.2⟩ | exact ⟨h.1,h.2.1,h.2.2.1,h.2.2.2.1,h.2.2.2.2.1,h.2.2.2.2.2.1,h.2.2.2.2.2.2.1,hK _ _ _ h.2.2.2.2.2.2.2⟩
  · obtain ⟨h0,h⟩:=h
    refine ⟨h0,?_⟩;cases op<;>first | grind | grind | exact ⟨h.1,hK _ _ _ h.2⟩ | exact ⟨h.1,h.2.1,hK _ _ _ h.2.2⟩ | exact ⟨h.1,h.2.1,h.2.2.1,hK _ _ _ h.2.2.2⟩ | exact ⟨h.1,h.2.1,h.2.2.1,h.2.2.2.1,hK _ _ _ h.2.2.2.2⟩ | exact ⟨h.1,h.2.1,h.2.2.1,h.2.2.2.1,h.2.2.2.2.1,h.2.2.2.2.2.1,h.2.2.2.2.2.2.1,hK _ _ _ h.2.2.2.2.2.2.2⟩
  · grind
  omega
theorem aUn_mono {op:UnOp} {vw:Bool} {K K':KV} (hK:∀v new vw,K v new vw→K' v new vw) {x:V} (h:aUn op vw K x):aUn op vw K' x:=by
  unfold aUn at h⊢;cases x<;>first | grind | grind | grind | exact ⟨h.1,h.2.1,hK _ _ _ h.2.2⟩ | exact ⟨h.1,h.2.1,h.2.2.1,hK _ _ _ h.2.2.2⟩ | exact ⟨h.1,h.2.1,h.2.2.1,h.2.2.2.1,hK _ _ _ h.2.2.2.2⟩ | exact ⟨h.1,h.2.1,h.2.2.1,h.2.2.2.1,h.2.2.2.2.1,h.2.2.2.2.2.1,h.2.2.2.2.2.2.1,hK _ _ _ h.2.2.2.2.2.2.2⟩
theorem aLoad_mono {T:TypeId} {G:Bool} {K K':KV} (hK:∀v new vw,K v new vw→K' v new vw) {x:V} (h:aLoad P s T G K x):aLoad P s T G K' x:=by
  unfold aLoad at h⊢;cases x<;>simp only [] at h⊢<;>first | exact h.elim | exact ⟨h.1,hK _ _ _ h.2⟩ | skip
  grind
theorem aIndexAddr_mono {t:TypeId} {G:Bool} {K K':KV} (hK:∀v new vw,K v new vw→K' v new vw) {x y:V} (h:aIndexAddr P s t G K x y):aIndexAddr P s t G K' x y:=by
  unfold aIndexAddr at h⊢;cases x<;>cases y<;>simp only [] at h⊢<;>first | exact h.elim | exact ⟨h.1,h.2.1,hK _ _ _ h.2.2⟩ | skip
  · grind
  · grind
  · grind
  grind
theorem aLen_mono {vw:Bool} {K K':KV} (hK:∀v new vw,K v new vw→K' v new vw) {x:V} (h:aLen s vw K x):aLen s vw K' x:=by
  unfold aLen at h⊢;cases x<;>simp only [] at h⊢<;>first | exact h.elim | exact hK _ _ _ h | skip
  grind
theorem aSlice_mono {t:TypeId} {G:Bool} {K K':KV} (hK:∀v new vw,K v new vw→K' v new vw) {x:V} {lo hi:Option V} (h:aSlice P s t G K x lo hi):aSlice P s t G K' x lo hi:=by
  unfold aSlice at h⊢;cases x<;>simp only [] at h⊢<;>first | exact h.elim | skip
  · grind
  · grind
  · grind
  grind
theorem aFieldAddr_mono {t:TypeId} {f:Nat} {vw:Bool} {K K':KV} (hK:∀v new vw,K v new vw→K' v new vw) {x:V} (h:aFieldAddr P t f vw K x):aFieldAddr P t f vw K' x:=by
  unfold aFieldAddr at h⊢;split at h
  · split at h
    · refine ⟨h.1,?_⟩
      have h:=h.2;cases x<;>first | grind | grind | exact ⟨h.1,hK _ _ _ h.2⟩ | exact ⟨h.1,h.2.1,hK _ _ _ h.2.2⟩ | exact ⟨h.1,h.2.1,h.2.2.1,hK _ _ _ h.2.2.2⟩ | exact ⟨h.1,h.2.1,h.2.2.1,h.2.2.2.1,hK _ _ _ h.2.2.2.2⟩ | exact ⟨h.1,h.2.1,h.2.2.1,h.2.2.2.1,h.2.2.2.2.1,h.2.2.2.2.2.1,h.2.2.2.2.2.2.1,hK _ _ _ h.2.2.2.2.2.2.2⟩
    omega
  omega
theorem aField_mono {t:TypeId} {f:Nat} {G vw:Bool} {K K':KV} (hK:∀v new vw,K v new vw→K' v new vw) {x:V} (h:aField P t f G vw K x):aField P t f G vw K' x:=by
  unfold aField at h⊢;cases x<;>simp only [] at h⊢<;>first | exact h.elim | skip
  grind
theorem aop_mono {G:Bool} {op:Op} {K K':KV} (hK:∀v new vw,K v new vw→K' v new vw) (h:aop P s nid G op K):aop P s nid G op K':=by
  cases op<;>simp only [aop] at h⊢
  case move=>grind
  case assign=>grind
  case pick c x y=>
    cases hc:(s.ev c).un<;>simp only [hc] at h⊢<;>first | grind | grind | grind | exact ⟨h.1,h.2.1,hK _ _ _ h.2.2⟩ | exact ⟨h.1,h.2.1,h.2.2.1,hK _ _ _ h.2.2.2⟩ | exact ⟨h.1,h.2.1,h.2.2.1,h.2.2.2.1,hK _ _ _ h.2.2.2.2⟩ | exact ⟨h.1,h.2.1,h.2.2.1,h.2.2.2.1,h.2.2.2.2.1,h.2.2.2.2.2.1,h.2.2.2.2.2.2.1,hK _ _ _ h.2.2.2.2.2.2.2⟩
  case alloc T=>
    cases hc:Program.zeroOf P T<;>simp only [hc] at h⊢<;>first | grind | grind | grind | grind | exact ⟨h.1,h.2.1,h.2.2.1,hK _ _ _ h.2.2.2⟩ | exact ⟨h.1,h.2.1,h.2.2.1,h.2.2.2.1,hK _ _ _ h.2.2.2.2⟩ | exact ⟨h.1,h.2.1,h.2.2.1,h.2.2.2.1,h.2.2.2.2.1,h.2.2.2.2.2.1,h.2.2.2.2.2.2.1,hK _ _ _ h.2.2.2.2.2.2.2⟩
  case box=>first | grind | grind | grind | grind | exact ⟨h.1,h.2.1,h.2.2.1,hK _ _ _ h.2.2.2⟩ | exact ⟨h.1,h.2.1,h.2.2.1,h.2.2.2.1,hK _ _ _ h.2.2.2.2⟩ | exact ⟨h.1,h.2.1,h.2.2.1,h.2.2.2.1,h.2.2.2.2.1,h.2.2.2.2.2.1,h.2.2.2.2.2.2.1,hK _ _ _ h.2.2.2.2.2.2.2⟩
  case build T ps=>
    grind
  case buildSlice T n ps=>
    grind
  case load=>grind[aLoad_mono]
  case nilCheck x=>
    refine ⟨h.1,?_⟩;have h:=h.2;cases hc:(s.ev x).un<;>simp only [hc] at h⊢<;>first | grind | grind | exact ⟨h.1,hK _ _ _ h.2⟩ | exact ⟨h.1,h.2.1,hK _ _ _ h.2.2⟩ | exact ⟨h.1,h.2.1,h.2.2.1,hK _ _ _ h.2.2.2⟩ | exact ⟨h.1,h.2.1,h.2.2.1,h.2.2.2.1,hK _ _ _ h.2.2.2.2⟩ | exact ⟨h.1,h.2.1,h.2.2.1,h.2.2.2.1,h.2.2.2.2.1,h.2.2.2.2.2.1,h.2.2.2.2.2.2.1,hK _ _ _ h.2.2.2.2.2.2.2⟩
  case binOp op xt x y yt=>
    refine ⟨h.1,?_⟩;have h:=h.2;cases hn:isNil y with
    | false=>rw [hn,cond_false] at h;rw [cond_false];exact aBin_mono hK h
    | true=>
      rw [hn,cond_true] at h;rw [cond_true];refine ⟨h.1,h.2.1,?_⟩;have h:=h.2.2;split at h
      · grind
      · grind
      · grind
      · grind
      omega
  case unOp=>grind[aUn_mono]
  case convert a b x=>
    grind
  case makeFunc fn first cap=>
    cases fn<;>first | grind | grind | grind | exact ⟨h.1,h.2.1,hK _ _ _ h.2.2⟩ | exact ⟨h.1,h.2.1,h.2.2.1,hK _ _ _ h.2.2.2⟩ | exact ⟨h.1,h.2.1,h.2.2.1,h.2.2.2.1,hK _ _ _ h.2.2.2.2⟩ | exact ⟨h.1,h.2.1,h.2.2.1,h.2.2.2.1,h.2.2.2.2.1,h.2.2.2.2.2.1,h.2.2.2.2.2.2.1,hK _ _ _ h.2.2.2.2.2.2.2⟩
  case makeSlice t l c=>
    grind
  case slice=>grind[aSlice_mono]
  case fieldAddr=>grind[aFieldAddr_mono]
  case field=>grind[aField_mono]
  case indexAddr=>grind[aIndexAddr_mono]
  case index t x i=>
    refine ⟨h.1,?_⟩;have h:=h.2;unfold aIndex at h⊢
    grind
  case extract x i=>
    refine ⟨h.1,?_⟩;have h:=h.2;unfold aExtract at h⊢
    grind
  case call c=>
    obtain ⟨callee,args,tys⟩:=c;cases callee<;>try exact h.elim
    rename_i b;cases b<;>try exact h.elim
    case len=>grind[aLen_mono]
    all_goals
      refine ⟨h.1,?_⟩;have h:=h.2;unfold aMinMax at h⊢
      grind
  all_goals exact h.elim
theorem aStore_mono {T:TypeId} {F F':St→Prop} (hF:∀s':St,s'.env=s.env→s'.n=s.n→F s'→F' s') {p v:V} (h:aStore P s T F p v):aStore P s T F' p v:=by
  unfold aStore at h⊢;cases p<;>simp only [] at h⊢<;>try exact h.elim
  split at h
  · grind
  · grind
  omega
theorem aAppend_mono {t:TypeId} {F F':V→St→Prop} (hF:∀v (s':St),s'.env=s.env→s'.n=s.n→F v s'→F' v s') {d x:V} (h:aAppend P s t F d x):aAppend P s t F' d x:=by
  unfold aAppend at h⊢
  grind
theorem aClear_mono {t:TypeId} {F F':St→Prop} (hF:∀s':St,s'.env=s.env→s'.n=s.n→F s'→F' s') {v:V} (h:aClear P s t F v):aClear P s t F' v:=by
  unfold aClear at h⊢;split at h
  · grind
  omega
theorem aCopy_mono {t:TypeId} {F F':V→St→Prop} (hF:∀v (s':St),s'.env=s.env→s'.n=s.n→F v s'→F' v s') {d x:V} (h:aCopy P s t F d x):aCopy P s t F' d x:=by
  unfold aCopy at h⊢
  grind
theorem aKeepOp_mono {K K':V→St→Prop} (hK:∀v (s':St),s'.env=s.env→s'.n=s.n→K v s'→K' v s') (h:aKeepOp P s o K):aKeepOp P s o K':=by
  unfold aKeepOp at h⊢;split at h
  · refine ⟨h.1,?_⟩
    have h:=h.2;unfold aKeep at h⊢;split at h
    · split at h
      · exact ⟨h.1,hK _ _ rfl rfl h.2.1,fun q=>hK _ _ rfl rfl (h.2.2 q)⟩
      · exact h.elim
    · exact h.elim
  · exact h.elim
theorem aExec_mono {K K':V→St→Prop} (hK:∀v (s':St),s'.env=s.env→s'.n=s.n→K v s'→K' v s') (h:aExec P L s o K):aExec P L s o K':=by
  unfold aExec at h⊢;split at h
  · exact ⟨h.1,h.2.1,aStore_mono (fun s' e n hs=>hK _ s' e n hs) h.2.2⟩
  · exact ⟨h.1,aAppend_mono hK h.2⟩
  · exact ⟨h.1,aCopy_mono hK h.2⟩
  · exact ⟨h.1,aClear_mono (fun s' e n hs=>hK _ s' e n hs) h.2⟩
  · split at h
    · refine ⟨h.1,?_⟩
      rcases h.2 with ⟨a0,p,args',Ols,O',a1,a2,a3,a4,a5,a6,a7,a8,a9,aK⟩ | ⟨O1,hp,args',Ols,R,a1,a2,a3,a4,a5,a6,a7⟩
      · exact .inl ⟨a0,p,args',Ols,O',a1,a2,a3,a4,a5,a6,a7,a8,a9,hK _ _ rfl rfl aK⟩
      exact .inr ⟨O1,hp,args',Ols,R,a1,a2,a3,a4,a5,a6,fun r O' hR=>⟨(a7 r O' hR).1,hK _ _ rfl rfl (a7 r O' hR).2⟩⟩
    · exact h.elim
  · exact aop_mono (fun v new vw hk=>hK _ _ rfl rfl hk) h
theorem aStep_mono {rg:Array Oper} {K K':St→Prop} (hK:∀(s0:St) (v:V),s0.env=s.env→s0.n=s.n→K (s0.set o.dst v)→K' (s0.set o.dst v)) (h:aStep P L rg o s K):aStep P L rg o s K':=by
  rcases h with h | ⟨hd,j,want,G,hg,hv,h,h'⟩ | ⟨hd,hg,h⟩
  · refine .inl ?_
    unfold aStepM at h⊢;refine ⟨h.1,?_⟩;have h:=h.2;have both:∀{G:Bool},((G=true→aExec P L s o fun v s'=>K (s'.set o.dst v))∧(G=false→K (s.set o.dst (.opt false .any))))→((G=true→aExec P L s o fun v s'=>K' (s'.set o.dst v))∧(G=false→K' (s.set o.dst (.opt false .any)))):=
      fun h=>⟨fun g=>aExec_mono (fun v s' e n hk=>hK s' v e n hk) (h.1 g),fun g=>hK s _ rfl rfl (h.2 g)⟩
    split at h
    · exact aExec_mono (fun v s' e n hk=>hK s' v e n hk) h
    · rename_i j want hg
      (try simp only [])
      split at h
      · exact h.elim
      · rename_i G hv
        (try rw [hv])
        (try simp only [])
        cases ho:optable o.op with
        | true=>
          rw [ho,cond_true] at h;rw [cond_true];exact aop_mono (fun v new vw hk=>⟨hk.1,hk.2.1,hK s _ rfl rfl hk.2.2⟩) h
        | false=>
          rw [ho,cond_false] at h;rw [cond_false];split at h
          · cases hs:scalarT P o.type with
            | true=>
              rw [hs,cond_true] at h;rw [cond_true];obtain ⟨r,h1,h2⟩:=h;exact ⟨r,h1,hK s _ rfl rfl h2⟩
            | false=>
              rw [hs,cond_false] at h;rw [cond_false];exact both h
          · exact both h
  · exact .inr (.inl ⟨hd,j,want,G,hg,hv,fun g=>aExec_mono (fun v s' e n hk=>hK s' _ e n hk) (h g),fun g=>(h' g).imp fun v q=>hK s _ rfl rfl q⟩)
  · exact .inr (.inr ⟨hd,hg,aKeepOp_mono (fun v s' e n hk=>hK s' v e n hk) h⟩)
theorem aStep_env {rg:Array Oper} {K:St→Prop} (he:Eq' rg o s E) (h:aStep P L rg o s K) :
    aStep P L rg o (s.wE E) (fun t'=>∃(s0:St) (v:V),s0.env=s.env∧s0.n=s.n∧K (s0.set o.dst v)∧t'=(s0.wE E).set o.dst v):=by
  have hex:∀{F:V→St→Prop},aExec P L s o F→aExec P L (s.wE E) o (fun v t'=>∃s0:St,s0.env=s.env∧s0.n=s.n∧F v s0∧t'=s0.wE E):=by
    intro F h;rw [aExec_env he];exact aExec_mono (fun v s' e n hk=>⟨s',e,n,hk,rfl⟩) h
  rcases h with h | ⟨hd,j,want,G,hg,hv,h,h'⟩ | ⟨hd,hg,h⟩
  · refine .inl ?_
    unfold aStepM at h⊢;refine ⟨h.1,?_⟩;have h:=h.2;have both:∀{G:Bool},((G=true→aExec P L s o fun v s'=>K (s'.set o.dst v))∧(G=false→K (s.set o.dst (.opt false .any))))→
        ((G=true→aExec P L (s.wE E) o fun v s'=>∃(s0:St) (v':V),s0.env=s.env∧s0.n=s.n∧K (s0.set o.dst v')∧s'.set o.dst v=(s0.wE E).set o.dst v')∧
          (G=false→∃(s0:St) (v':V),s0.env=s.env∧s0.n=s.n∧K (s0.set o.dst v')∧(s.wE E).set o.dst (.opt false .any)=(s0.wE E).set o.dst v')):=
      fun h=>⟨fun g=>aExec_mono (fun v s' _ _ ⟨s0,e,n,hk,e2⟩=>⟨s0,v,e,n,hk,by rw [e2]⟩) (hex (h.1 g)),fun g=>⟨s,_,rfl,rfl,h.2 g,rfl⟩⟩
    split at h
    · exact aExec_mono (fun v s' _ _ ⟨s0,e,n,hk,e2⟩=>⟨s0,v,e,n,hk,by rw [e2]⟩) (hex h)
    · rename_i j want hg
      (try simp only [])
      rw [guardV_env he hg];split at h
      · exact h.elim
      · rename_i G hv
        (try rw [hv])
        (try simp only [])
        cases ho:optable o.op with
        | true=>
          rw [ho,cond_true] at h;rw [cond_true];rw [aop_env he.ev];exact aop_mono (fun v new vw hk=>⟨hk.1,hk.2.1,s,_,rfl,rfl,hk.2.2,rfl⟩) h
        | false=>
          rw [ho,cond_false] at h;rw [cond_false];split at h
          · cases hs:scalarT P o.type with
            | true=>
              rw [hs,cond_true] at h;rw [cond_true];obtain ⟨r,h1,h2⟩:=h;exact ⟨r,fun g=>aExec_mono (fun v s' _ _ ⟨s0,_,_,hk,e2⟩=>⟨hk.1,by rw [e2,hk.2];rfl⟩) (hex (h1 g)),s,_,rfl,rfl,h2,rfl⟩
            | false=>
              rw [hs,cond_false] at h;rw [cond_false];exact both h
          · exact both h
  · exact .inr (.inl ⟨hd,j,want,G,hg,by rw [guardV_env he hg];exact hv,fun g=>aExec_mono (fun v s' _ _ ⟨s0,e,n,hk,e2⟩=>⟨s0,_,e,n,hk,by rw [e2]⟩) (hex (h g)),fun g=>(h' g).imp fun v q=>⟨s,_,rfl,rfl,q,rfl⟩⟩)
  · refine .inr (.inr ⟨hd,hg,?_⟩)
    rw [aKeepOp_env he];exact aKeepOp_mono (fun v s' e n hk=>⟨s',v,e,n,hk,rfl⟩) h
def Grow (O O':List Blk):Prop:=∀(id:Nat) (b:Blk),O[id]? =some b→O'[id]? =some b
theorem Grow.refl (O:List Blk):Grow O O:=fun _ _ h=>h
theorem Grow.trans {a b c:List Blk} (h:Grow a b) (k:Grow b c):Grow a c:=fun id x e=>k id x (h id x e)
theorem Grow.app (O new:List Blk):Grow O (O++new):=fun id b h=>by
  grind
def growsOp (L:Lend) (o:Op):Bool:=match o with
  | .store _ _ _=>false
  | .call {callee:=.builtin .append,..}=>false
  | .call {callee:=.builtin .clear,..}=>false
  | .call {callee:=.builtin .copy,..}=>false
  | .call {callee:=.value (.func g),..}=>(lendOf L g).isEmpty
  | .call {callee:=.value _,..}=>L.isEmpty
  | _=>true
theorem aExec_grow {K:V→St→Prop} (hg:growsOp L o.op=true) (h:aExec P L s o K):aExec P L s o (fun v s'=>Grow s.O s'.O∧K v s'):=by
  unfold aExec at h⊢;split at h
  · rename_i e;rw [e] at hg;cases hg
  · rename_i e;rw [e] at hg;cases hg
  · rename_i e;rw [e] at hg;cases hg
  · rename_i e;rw [e] at hg;cases hg
  · rename_i f args tys e
    rw [e] at hg;split at h
    · rename_i g caps hf
      refine ⟨h.1,?_⟩;have hl:lendOf L g=[]:=by
        cases f with
        | func g'=>
          have:g'=g:=by simp only [St.ev,V.un] at hf;injection hf
          subst this;simpa [growsOp] using hg
        | _=>
          have hL:L=[]:=by simpa [growsOp] using hg
          rw [hL];rfl
      have hn:lentIds (lendOf L g) (args.toList.map (fun x=>(s.ev x).un)++caps)=[]:=by rw [hl];rfl
      rcases h.2 with ⟨a0,p,args',Ols,O',a1,a2,a3,a4,a5,a6,a7,a8,a9,aK⟩ | ⟨O1,hp,args',Ols,R,a1,a2,a3,a4,a5,a6,a7⟩
      · refine .inl ⟨a0,p,args',Ols,O',a1,a2,a3,a4,a5,a6,a7,a8,a9,?_,aK⟩
        simp only [hn,setBlks];have:=Grow.app s.O []
        rwa [ql6] at this
      have hp':O1=s.O:=hp.resolve_right fun q=>q.1 hn
      subst hp';refine .inr ⟨_,.inl rfl,args',Ols,R,a1,a2,a3,a4,a5,a6,fun r O' hR=>⟨(a7 r O' hR).1,?_,(a7 r O' hR).2⟩⟩;simp only [hn,setBlks];exact Grow.app _ _
    · exact h.elim
  · exact aop_mono (fun v new vw hk=>⟨Grow.app _ _,hk⟩) h
theorem set_O (s:St) (d:Option Nat) (v:V):(s.set d v).O=s.O:=by cases d<;>rfl
theorem set_n (s:St) (d:Option Nat) (v:V):(s.set d v).n=s.n:=by cases d<;>rfl
theorem aStep_grow {rg:Array Oper} {K:St→Prop} (hg:growsOp L o.op=true) (h:aStep P L rg o s K):aStep P L rg o s (fun t'=>Grow s.O t'.O∧K t'):=by
  rcases h with h | ⟨hd,j,want,G,hg',hv,h,h'⟩ | ⟨hd,hg',h⟩
  · refine .inl ?_
    unfold aStepM at h⊢;refine ⟨h.1,?_⟩;have h:=h.2;have ex:(aExec P L s o fun v s'=>K (s'.set o.dst v))→aExec P L s o fun v s'=>Grow s.O (s'.set o.dst v).O∧K (s'.set o.dst v):=
      fun h=>aExec_mono (fun v s' _ _ hk=>⟨by rw [set_O];exact hk.1,hk.2⟩) (aExec_grow hg h)
    have stay:∀v,Grow s.O (s.set o.dst v).O:=fun v=>by rw [set_O];exact Grow.refl _
    split at h
    · exact ex h
    · rename_i j want hg
      (try simp only [])
      split at h
      · exact h.elim
      · rename_i G hv
        (try rw [hv])
        (try simp only [])
        cases ho:optable o.op with
        | true=>
          rw [ho,cond_true] at h;rw [cond_true];exact aop_mono (fun v new vw hk=>⟨hk.1,hk.2.1,stay _,hk.2.2⟩) h
        | false=>
          rw [ho,cond_false] at h;rw [cond_false];split at h
          · cases hs:scalarT P o.type with
            | true=>
              rw [hs,cond_true] at h;rw [cond_true];obtain ⟨r,h1,h2⟩:=h;exact ⟨r,h1,stay _,h2⟩
            | false=>
              rw [hs,cond_false] at h;rw [cond_false];exact ⟨fun g=>ex (h.1 g),fun g=>⟨stay _,h.2 g⟩⟩
          · exact ⟨fun g=>ex (h.1 g),fun g=>⟨stay _,h.2 g⟩⟩
  · exact .inr (.inl ⟨hd,j,want,G,hg',hv,fun g=>aExec_mono (fun v s' _ _ hk=>⟨by rw [set_O];exact hk.1,hk.2⟩) (aExec_grow hg (h g)),fun g=>(h' g).imp fun v q=>⟨by rw [set_O];exact Grow.refl _,q⟩⟩)
  · exfalso
    unfold aKeepOp at h;split at h
    · rename_i ho
      rw [ho] at hg;exact absurd hg (by simp [growsOp])
    · exact h
structure EqS (s t:St):Prop where
  get:∀x,t.get x=s.get x
  O:t.O=s.O
  vw:t.vw=s.vw
  n:t.n=s.n
  mask:t.mask=s.mask
theorem aAny_eq {rg:Array Oper} {K:St→Prop} (hK:∀s t,EqS s t→K s→K t):∀(fuel:Nat) (listed:Array Bool) (s t:St),EqS s t→aAny P L rg K fuel listed s→aAny P L rg K fuel listed t
  | 0,_,s,t,e,h=>⟨h.1,hK s t e h.2⟩
  | fuel+1,listed,s,t,e,h=>by
    refine ⟨fun h0=>hK s t e (h.1 h0),fun i hi o ho=> ?_⟩;have h1:=aStep_env (E:=t.env) (fun x _=>by exact e.get x) (h.2 i hi o ho);have ht:s.wE t.env=t:=by cases t;simp only [St.wE];have:=e.O;have:=e.vw;have:=e.n;have:=e.mask;grind
    rw [ht] at h1;refine aStep_mono ?_ h1;rintro t0 v _ _ ⟨s0,v',e0,en,hk,e1⟩;rw [e1];refine aAny_eq hK fuel _ _ _ ⟨fun x=> ?_,by rfl,by cases o.dst<;>rfl,by rfl,by cases o.dst<;>rfl⟩ hk
    have key:∀y,look y (s0.wE t.env).env=look y s0.env:=fun y=>by rw [e0];exact e.get y
    cases o.dst with
    | none=>exact key x
    | some d=>show look x ((d,v')::_)=look x ((d,v')::_);grind[look_cons]
def Region.depStep (ops:Array Oper) (listed:Array Bool) (i:Nat) (acc:List Nat) (j:Nat):List Nat:=
  bif (!listed.getD j true && match ops[j]? with | some oj=>oj.after.any (fun e=>Go.Region.binds .any e && (e.on == i || acc.contains e.on)) | none=>false) then j::acc else acc
def Region.depsOf (ops:Array Oper) (listed:Array Bool) (i:Nat):List Nat:=(List.range ops.size).foldl (Region.depStep ops listed i) []
def Region.DepsOK (ops:Array Oper) (listed:Array Bool) (i:Nat) (acc:List Nat):Prop:=
  ∀j∈acc,listed.getD j true=false∧∃oj,ops[j]? =some oj∧∃e∈oj.after,Go.Region.binds .any e=true∧(e.on=i∨e.on∈acc)
theorem Region.depStep_ok {ops:Array Oper} {listed:Array Bool} {i j:Nat} {acc:List Nat} (h:Region.DepsOK ops listed i acc):Region.DepsOK ops listed i (Region.depStep ops listed i acc j):=by
  unfold Region.depStep;cases hb:(!listed.getD j true && match ops[j]? with | some oj=>oj.after.any (fun e=>Go.Region.binds .any e && (e.on == i || acc.contains e.on)) | none=>false) with
  | false=>exact h
  | true=>
    rw [cond_true];rw [qlo,Bool.not_eq_true'] at hb;obtain ⟨h1,h2⟩:=hb;intro k hk;rcases ql0.1 hk with rfl | hk
    · grind
    · obtain ⟨q1,oj,q2,e,q3,q4,q5⟩:=h k hk
      grind
theorem Region.depsOf_ok (ops:Array Oper) (listed:Array Bool) (i:Nat):Region.DepsOK ops listed i (Region.depsOf ops listed i):=by
  unfold Region.depsOf;have key:∀(l:List Nat) (acc:List Nat),Region.DepsOK ops listed i acc→Region.DepsOK ops listed i (l.foldl (Region.depStep ops listed i) acc):=by
    intro l
    induction l with
    | nil=>simp
    | cons x l ih=>grind[Region.depStep_ok]
  exact key _ _ (fun j hj=>by grind)
def Region.freeG (L:Lend) (kp:Bool) (ops:Array Oper) (listed:Array Bool) (i:Nat):Bool:=
  match ops[i]? with
  | none=>false
  | some oi=>(List.range ops.size).all fun j=>j == i || listed.getD j true || (Region.depsOf ops listed i).contains j || match ops[j]? with
      | some oj=>oi.apart ops oj && (!kp || growsOp L oj.op)
      | none=>true
theorem Region.freeG_spec {kp:Bool} {ops:Array Oper} {i:Nat} {oi:Oper} {listed:Array Bool} (hi:ops[i]? =some oi) (h:Region.freeG L kp ops listed i=true) (j:Nat) (oj:Oper)
    (hj:ops[j]? =some oj) (hne:j≠i) (hun:listed.getD j true=false) (hno:j ∉ Region.depsOf ops listed i) :
    oi.apart ops oj=true∧(kp=true→growsOp L oj.op=true):=by
  simp only [Region.freeG,hi,List.all_eq_true,List.mem_range] at h
  grind
def PureH (P:Program) (L:Lend) (rg:Array Oper) (kp:Bool) (oi:Oper) (d:Nat) (v:V) (s:St):Prop:=
  ∀t:St,t.n=s.n→(∀x∈oi.looksAt rg,t.get x=s.get x)→(kp=true→Grow s.O t.O)→∀K:St→Prop,K (t.set (some d) v)→aStep P L rg oi t K
theorem aAny_first {rg:Array Oper} {K:St→Prop} (hK:∀s t,EqS s t→K s→K t) {i d:Nat} {oi:Oper} {v:V} {kp:Bool} (hi:rg[i]? =some oi) (hd:oi.dst=some d) :
    ∀ (fuel:Nat) (listed:Array Bool) (s:St),
      (∃D:List Nat,Region.DepsOK rg listed i D∧∀j oj,rg[j]? =some oj→j≠i→listed.getD j true=false→j ∉ D→oi.apart rg oj=true∧(kp=true→growsOp L oj.op=true))→
      i∈Region.ready .any rg listed→PureH P L rg kp oi d v s→aAny P L rg K fuel (listed.setIfInBounds i true) (s.set (some d) v)→aAny P L rg K (fuel+1) listed s:=by
  intro fuel
  induction fuel with
  | zero=>
    intro listed s _ hr hp H;refine ⟨fun h=>(by grind),fun j hj oj hoj=> ?_⟩
    by_cases hji:j=i
    · subst hji
      rw [hi] at hoj;cases hoj;exact hp s rfl (fun _ _=>rfl) (fun _=>Grow.refl _) _ H
    · have:=ready_mono hj hji
      rw [H.1] at this
      grind
  | succ fuel ih=>
    intro listed s hfree hr hp H;refine ⟨fun h=>(by grind),fun j hj oj hoj=> ?_⟩
    by_cases hji:j=i
    · subst hji
      rw [hi] at hoj;cases hoj;exact hp s rfl (fun _ _=>rfl) (fun _=>Grow.refl _) _ H
    · have h1:=H.2 j (ready_mono hj hji) oj hoj
      obtain ⟨hjun,oj',hoj',hall⟩:=mem_ready.1 hj;rw [hoj] at hoj';cases hoj';obtain ⟨D,hD,hfree⟩:=hfree;have clash:∀m,listed.getD m true=false→∀e∈oj.after,Go.Region.binds .any e=true→e.on≠m:=fun m h0 e he hb heq=>by
        grind
      have hnot:j ∉ D:=fun hjD=>by
        obtain ⟨_,oj2,q2,e,q3,q4,q5⟩:=hD j hjD;rw [hoj] at q2;cases q2;rcases q5 with q5 | q5
        · grind[mem_ready]
        · exact clash e.on (hD e.on q5).1 e q3 q4 rfl
      obtain ⟨hap,hgr⟩:=hfree j oj hoj hji hjun hnot;obtain ⟨a1,a2,a3⟩:=Oper.apart_spec hap;have hlook:∀x,x≠d→look x ((d,v)::s.env)=look x s.env:=fun x hx=>by rw [look_cons,if_neg hx]
      have heq:Eq' rg oj (s.set (some d) v) s.env:=fun x hx=>(hlook x (fun e=>a1 d hd (e ▸ hx))).symm
      have h2:=aStep_env heq h1;have hback:(s.set (some d) v).wE s.env=s:=rfl;rw [hback] at h2;have h3:aStep P L rg oj s (fun t'=>(kp=true→Grow s.O t'.O)∧∃(s0:St) (v':V),s0.env=(s.set (some d) v).env∧s0.n=(s.set (some d) v).n∧aAny P L rg K fuel ((listed.setIfInBounds i true).setIfInBounds j true) (s0.set oj.dst v')∧t'=(s0.wE s.env).set oj.dst v'):=by
        cases hk:kp with
        | false=>grind
        | true=>grind[aStep_mono,aStep_grow]
      refine aStep_mono ?_ h3;rintro t0 tv _ _ ⟨hgrow,s0,v',e0,en,hk,e1⟩;rw [e1] at hgrow⊢;have hfree':∃D:List Nat,Region.DepsOK rg (listed.setIfInBounds j true) i D∧∀k ok,rg[k]? =some ok→k≠i→(listed.setIfInBounds j true).getD k true=false→
          k ∉ D→oi.apart rg ok=true∧(kp=true→growsOp L ok.op=true):=by
        refine ⟨D,fun k hk=> ?_,fun k ok hk hki hun hno=> ?_⟩
        · obtain ⟨q1,q2⟩:=hD k hk
          refine ⟨?_,q2⟩;rw [getD_set_ne true (fun e:j=k=>hnot (e ▸ hk))];omega
        · refine hfree k ok hk hki ?_ hno
          by_cases hjk:j=k
          · grind
          · rw [getD_set_ne true hjk] at hun;omega
      have hgets:∀x∈oi.looksAt rg,((s0.wE s.env).set oj.dst v').get x=s.get x:=by
        intro x hx;cases hdj:oj.dst with
        | none=>rfl
        | some dj=>
          show look x ((dj,v')::s.env)=look x s.env;rw [look_cons,if_neg (fun e:x=dj=>a3 dj hdj (e ▸ hx))]
      refine ih (listed.setIfInBounds j true) _ hfree' (ready_mono hr (Ne.symm hji)) ?_ ?_
      · intro t hn hx hO K' hK'
        exact hp t (hn.trans (by rw [set_n];exact en)) (fun x hx'=>(hx x hx').trans (hgets x hx')) (fun q=>(hgrow q).trans (hO q)) K' hK'
      · rw [Array.setIfInBounds_comm _ _ hji]
        refine aAny_eq hK fuel _ _ _ ⟨fun x=> ?_,by rfl,by cases oj.dst<;>rfl,by rfl,by cases oj.dst<;>rfl⟩ hk
        cases hdj:oj.dst with
        | none=>
          show look x ((d,v)::s.env)=look x s0.env;rw [e0];rfl
        | some dj=>
          have hne:dj≠d:=fun e=>a2 d hd (by grind)
          show look x ((d,v)::(dj,v')::s.env)=look x ((dj,v')::s0.env);rw [e0];show look x ((d,v)::(dj,v')::s.env)=look x ((dj,v')::(d,v)::s.env);simp only [look_cons]
          grind
theorem op_at {rg:Array Oper} {i:Nat} {oi:Oper} {rest:List Oper} (h:rg.toList.drop i=oi::rest):rg[i]? =some oi:=by
  have:=congrArg List.head? h
  grind[List.head?_drop,List.head?_cons]
theorem aAny_take {rg:Array Oper} {K:St→Prop} (hK:∀s t,EqS s t→K s→K t) (kp:Bool) (i d:Nat) {oi:Oper} {rest:List Oper} {fuel:Nat} {listed:Array Bool} (hi:rg.toList.drop i=oi::rest) (hd:oi.dst=some d)
    (hf:Region.freeG L kp rg listed i=true) (hr:(Region.ready .any rg listed).contains i=true) (h:∃v,PureH P L rg kp oi d v s∧aAny P L rg K fuel (listed.setIfInBounds i true) (s.set (some d) v)):aAny P L rg K (fuel+1) listed s:=by
  obtain ⟨v,h1,h2⟩:=h;exact aAny_first hK (op_at hi) hd fuel listed s ⟨_,Region.depsOf_ok rg listed i,Region.freeG_spec (op_at hi) hf⟩ (by grind) h1 h2
theorem aAny_only {rg:Array Oper} {K:St→Prop} (i:Nat) {oi:Oper} {rest:List Oper} {fuel:Nat} {listed:Array Bool} (hi:rg.toList.drop i=oi::rest) (hr:Region.ready .any rg listed=[i])
    (h:∀K':St→Prop,(∀s,aAny P L rg K fuel (listed.setIfInBounds i true) s→K' s)→aStepM P L rg oi s K'):aAny P L rg K (fuel+1) listed s:=by
  refine ⟨fun h0=>(by grind),fun j hj o ho=> ?_⟩;rw [hr,qli] at hj;subst hj;rw [op_at hi] at ho;cases ho;exact .inl (h _ fun _ h=>h)
theorem aAny_two {rg:Array Oper} {K:St→Prop} (i i':Nat) {oi oi':Oper} {rest rest':List Oper} {fuel:Nat} {listed:Array Bool} (hi:rg.toList.drop i=oi::rest) (hi':rg.toList.drop i'=oi'::rest') (hr:Region.ready .any rg listed=[i,i'])
    (h:∀K':St→Prop,(∀s,aAny P L rg K fuel (listed.setIfInBounds i true) s→K' s)→aStepM P L rg oi s K') (h':∀K':St→Prop,(∀s,aAny P L rg K fuel (listed.setIfInBounds i' true) s→K' s)→aStepM P L rg oi' s K'):aAny P L rg K (fuel+1) listed s:=by
  refine ⟨fun h0=>(by grind),fun j hj o ho=> ?_⟩;rw [hr] at hj;rcases ql0.1 hj with e | hj
  · subst e
    rw [op_at hi] at ho;cases ho;exact .inl (h _ fun _ h=>h)
  · rw [qli] at hj
    subst hj;rw [op_at hi'] at ho;cases ho;exact .inl (h' _ fun _ h=>h)
theorem aAny_three {rg:Array Oper} {K:St→Prop} (i i' i2:Nat) {oi oi' oi2:Oper} {rest rest' rest2:List Oper} {fuel:Nat} {listed:Array Bool} (hi:rg.toList.drop i=oi::rest) (hi':rg.toList.drop i'=oi'::rest') (hi2:rg.toList.drop i2=oi2::rest2) (hr:Region.ready .any rg listed=[i,i',i2])
    (h:∀K':St→Prop,(∀s,aAny P L rg K fuel (listed.setIfInBounds i true) s→K' s)→aStepM P L rg oi s K') (h':∀K':St→Prop,(∀s,aAny P L rg K fuel (listed.setIfInBounds i' true) s→K' s)→aStepM P L rg oi' s K')
    (h2:∀K':St→Prop,(∀s,aAny P L rg K fuel (listed.setIfInBounds i2 true) s→K' s)→aStepM P L rg oi2 s K'):aAny P L rg K (fuel+1) listed s:=by
  refine ⟨fun h0=>(by grind),fun j hj o ho=> ?_⟩;rw [hr] at hj;rcases ql0.1 hj with e | hj
  · subst e
    rw [op_at hi] at ho;cases ho;exact .inl (h _ fun _ h=>h)
  · rcases ql0.1 hj with e | hj
    · subst e
      rw [op_at hi'] at ho;cases ho;exact .inl (h' _ fun _ h=>h)
    · rw [qli] at hj
      subst hj;rw [op_at hi2] at ho;cases ho;exact .inl (h2 _ fun _ h=>h)
theorem aAny_done {rg:Array Oper} {K:St→Prop} {fuel:Nat} {listed:Array Bool} (hr:Region.ready .any rg listed=[]) (h:K s):aAny P L rg K fuel listed s:=by
  cases fuel with
  | zero=>exact ⟨hr,h⟩
  | succ n=>exact ⟨fun _=>h,by grind⟩
theorem weak_eqS {m:Nat} {s t u:St} (h:EqS s t) (hw:Weak m s u):Weak m t u:=fun cx a w μ ow hm hr=>by
  refine hw cx a w μ ow hm ⟨hr.dfr,by rw [hr.sz,h.n],fun x=> ?_,fun id bk e=> ?_,fun id hid=>hr.dom id (by rw [h.O];omega),hr.owl,hr.own,hr.frm,hr.mu⟩
  · obtain ⟨bl,r1,r2⟩:=hr.env x
    rw [h.get] at r1;rw [h.vw] at r2
    grind
  · have:=hr.blk id bk (by rw [h.O];exact e)
    rw [h.vw] at this;omega
theorem v_draw {m:Nat} {Q:AEx→St→Prop} {id:Nat} {ops:Array Oper} (hm:P.follows .mixedOrders=true)
    (h:∀K:St→Prop,(∀s t,EqS s t→K s→K t)→(∀s,Q .normal s→K s)→aAny P L ops K ops.size (Array.replicate ops.size false) s):awp P L m (.region id ops true) Q s:=
  ⟨hm,h _ (fun _ _ e ⟨s₁,hw,hq⟩=>⟨s₁,weak_eqS e hw,hq⟩) (fun s hq=>⟨s,weak_refl m s,hq⟩)⟩
end
theorem aAny_pass {P:Program} {L:Lend} {s:St} {rg:Array Oper} {K:St→Prop} (i d j:Nat) (want:Bool) {oi:Oper} {rest:List Oper} {fuel:Nat} {listed:Array Bool} (hi:rg.toList.drop i=oi::rest) (hd:oi.dst=some d) (hn:d < s.n)
    (hr:Region.ready .any rg listed=[i]) (hg:oi.guard=some (j,want)) (hv:guardV s rg j want=some false) (h:aAny P L rg K fuel (listed.setIfInBounds i true) (s.set (some d) (.opt false .any))):aAny P L rg K (fuel+1) listed s:=by
  refine ⟨fun h0=>(by rw [hr] at h0;cases h0),fun j' hj o ho=> ?_⟩;rw [hr,qli] at hj;subst hj;rw [op_at hi] at ho;cases ho;exact .inr (.inl ⟨by rw [hd];exact hn,j,want,false,hg,hv,nofun,fun _=>⟨.any,by rw [hd];exact h⟩⟩)
theorem aCall_guardT {P:Program} {s:St} {f:FuncId} {args args':List V} {r:V} {K:V→Prop} (hc:Con P f args' [] r []) (ht:toArgs s [] args=some args')
    (hr:r.only (fun _=>false)=true) (hcl:r.clean=true) (hk:K r):∃r,(aCall P s f [] args fun v s'=>v=r∧s'={s with O:=s.O++[]})∧K r:=
  ⟨r,aCall_new hc ht (.inl ⟨hcl,by simp⟩) ⟨ren_only (by simp) hr,rfl⟩,hk⟩
theorem aCall_lent {P:Program} {s:St} {f:FuncId} {args args':List V} {r:V} {bk bk':Blk} {O':List Blk} {K:V→St→Prop} (id:Nat) (hc:Con P f args' [bk] r (bk'::O')) (ht:toArgs s [id] args=some args')
    (hO:s.O[id]? =some bk) (hbk:bk.kindIs (fun k=>k.nm)=true∧bk≠.dead) (hv:s.vw=false∨bk.kindIs (fun k=>k == .flat)=true)
    (hcl:r.clean=true∧∀b∈bk'::O',b.kindIs (fun k=>k != .shal && k.nm)=true) (hk:K (r.ren (rho [id] s.O.length)) {s with O:=s.O.set id bk'++O'}):aCall P s f [id] args K:=
  aCall_of ht (by grind) (by simp) (by grind) (hv.imp (fun h=>h) (fun h=>by grind)) hc (.inl hcl) (by simpa [setBlks] using hk)
theorem grow_row {s t:St} {i:Nat} {r:List V×Kd} (h:Grow s.O t.O) (e:(s.O[i]?).bind Blk.row=some r):t.row i=some r:=by
  unfold St.row;cases hb:s.O[i]? with
  | none=>grind
  | some b=>rw [hb] at e;rw [h i b hb];exact e
end Go.Vm
