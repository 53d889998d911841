/- The value machine, part 5. -/
import Derived.Orders
import Derived.Test.YtmhaafinhpopmaaGreatUmD
set_option linter.unusedSimpArgs false
set_option linter.unusedVariables false
set_option linter.defProp false
namespace Go.Vm
open Go
section
variable {P:Program} {cx:Cx} {s:St} {nid:Nat} {a:Act} {w:World} {μ:Nat→Option Loc} {ow:Ow} {o:Oper} {K:KV}
theorem getD_one {α:Type} {xs:Array α} {d:α} (h:xs.size=1):xs=#[xs.getD 0 d]:=by
  obtain ⟨l⟩:=xs;cases l with
  | nil=>grind
  | cons x l=>
    simp_all
theorem aop_sound (h:Sup cx s a w μ ow) (hk:aop P s nid true o.op K):QV P cx s nid w μ ow o a K:=by
  generalize ho:o.op=op at hk;cases op<;>simp only [aop] at hk
  case move x=>grind[move_sound]
  case assign x=>grind[assign_sound]
  case pick c x y=>
    split at hk
    · rename_i t hc
      exact pick_sound h c x y t ho hc (hk.1 trivial) hk.2
    grind
  case alloc T=>
    grind[alloc_sound]
  case box T x=>exact box_sound h T x ho (hk.1 trivial) (hk.2.1 trivial) hk.2.2
  case build T ps=>
    split at hk
    · rename_i fs z hu hz
      split at hk
      · rename_i cs hf
        exact build_sound h T ps fs z cs ho hu hz hf hk.1 hk.2.1 (hk.2.2.1 trivial) hk.2.2.2
      grind
    · rename_i len e z hu hz
      split at hk
      · rename_i cs hf
        exact buildArr_sound h T ps len e z cs ho hu hz hf hk.1 hk.2.1 (hk.2.2.1 trivial) hk.2.2.2
      grind
    grind
  case buildSlice T n ps=>
    split at hk
    · rename_i e xs hu hx
      exact buildSlice_sound h T e n ps xs ho hu hx (hk.1.1 trivial) hk.1.2 hk.2.1 hk.2.2.1 hk.2.2.2.1 hk.2.2.2.2
    grind
  case load T p=>exact load_sound h T p ho (hk.1 trivial) hk.2
  case nilCheck x=>exact nil_sound h x ho (hk.1 trivial) hk.2
  case binOp op xt x y yt=>
    obtain ⟨h1,hk⟩:=hk;cases hn:isNil y with
    | true=>rw [hn,cond_true] at hk;exact nilcmp_sound h op xt yt x y ho (h1 trivial).1 hn hk
    | false=>rw [hn,cond_false] at hk;exact bin_sound h op xt yt x y ho (h1 trivial).1 (h1 trivial).2 hk
  case unOp op t x=>exact un_sound h op t x ho (hk.1 trivial) hk.2
  case convert src dst x=>exact convert_sound h src dst x ho (hk.1 trivial) hk.2.1 hk.2.2
  case makeFunc fn first cap=>
    grind[makeFunc_sound]
  case makeSlice t l c=>
    split at hk
    · rename_i e k n k' m hu hl hc
      split at hk
      · rename_i z hz
        obtain ⟨rfl,hg,h1,h2,h3,h4,h5,hk⟩:=hk;obtain ⟨g1,g2,g3,g4,g5⟩:=hg trivial
        grind[makeSlice_sound]
      grind
    grind
  case slice t x lo hi mx=>
    obtain ⟨h1,h2,hk⟩:=hk;cases mx with
    | some y=>grind
    | none=>exact slice_sound h t x lo hi ho (h2 trivial).1 (h2 trivial).2.1 (h2 trivial).2.2 hk
  case fieldAddr t x f=>exact fieldAddr_sound h t x f ho (hk.1 trivial) hk.2
  case field t x f=>exact field_sound h t x f ho (hk.1 trivial) hk.2
  case indexAddr t x i=>exact indexAddr_sound h t x i ho (hk.1 trivial) hk.2
  case index t x i=>exact index_sound h t x i ho (hk.1 trivial) hk.2
  case extract x i=>exact extract_sound h x i ho (hk.1 trivial) hk.2
  case call c=>
    obtain ⟨callee,args,tys⟩:=c;cases callee<;>try exact hk.elim
    rename_i b;cases b<;>try exact hk.elim
    case len=>
      obtain ⟨h1,h2,h3,h4,hk⟩:=hk;have e1:=getD_one (d:=default) h1;obtain ⟨tl⟩:=tys;cases tl with
      | nil=>grind
      | cons t tl=>
        cases tl with
        | cons y l=>grind
        | nil=>exact len_sound h (args.getD 0 default) t _ ho rfl e1 rfl h3 (h4 trivial) hk
    case max=>exact minmax_sound true h _ ho rfl (hk.1 trivial) hk.2
    case min=>exact minmax_sound false h _ ho rfl (hk.1 trivial) hk.2
  all_goals exact hk.elim
end
abbrev Lend:=List (Nat×List Nat)
def lendOf (L:Lend) (f:Nat):List Nat:=match L with
  | []=>[]
  | (g,ps)::l=>bif Nat.beq g f then ps else lendOf l f
def argIds:V→List Nat
  | .ref id=>[id]
  | .ptr id _ _=>[id]
  | .agg cs=>cs.flatMap fun c=>match c with | .ref id=>[id] | _=>[]
  | _=>[]
def lentIds (ps:List Nat) (args:List V):List Nat:=ps.flatMap fun p=>argIds (args.getD p .any)
def aExec (P:Program) (L:Lend) (s:St) (o:Oper) (K:V→St→Prop):Prop:=
  match o.op with
  | .store T p x=>o.dst=none∧((s.ev p).gd=true∧(s.ev x).gd=true)∧aStore P s T (fun s'=>K .any s') (s.ev p).un (s.ev x).un
  | .call {callee:=.builtin .append,args,argTypes}=>
    (args.size=2∧argTypes.size=2∧argTypes.getD 0 0=argTypes.getD 1 0∧(s.ev (args.getD 0 default)).gd=true∧(s.ev (args.getD 1 default)).gd=true)∧
    aAppend P s (argTypes.getD 0 0) K (s.ev (args.getD 0 default)).un (s.ev (args.getD 1 default)).un
  | .call {callee:=.builtin .copy,args,argTypes}=>
    (args.size=2∧argTypes.size=2∧(s.ev (args.getD 0 default)).gd=true∧(s.ev (args.getD 1 default)).gd=true)∧aCopy P s (argTypes.getD 0 0) K (s.ev (args.getD 0 default)).un (s.ev (args.getD 1 default)).un
  | .call {callee:=.builtin .clear,args,argTypes}=>
    (o.dst=none∧args.size=1∧argTypes.size=1∧(s.ev (args.getD 0 default)).gd=true)∧aClear P s (argTypes.getD 0 0) (fun s'=>K .any s') (s.ev (args.getD 0 default)).un
  | .call {callee:=.value f,args,..}=>match (s.ev f).un with
    | .fn g caps=>((s.ev f).gd=true∧∀x∈args.toList,(s.ev x).gd=true)∧
        (let vs:=args.toList.map (fun x=>(s.ev x).un)++caps;aCall P s g (lentIds (lendOf L g) vs) vs K)
    | _=>False
  | op=>aop P s s.O.length true op fun v new vw=>K v {s with O:=s.O++new,vw:=vw}
def St.set (s:St) (d:Option Nat) (v:V):St:={s with env:=match d with | some t=>(t,v)::s.env | none=>s.env}
def dstOK (d:Option Nat) (n:Nat):Prop:=match d with | some t=>t < n | none=>True
def scalarT (P:Program) (t:TypeId):Bool:=match P.underlying t with
  | some .bool | some (.int _) | some .string=>true
  | _=>false
def optable:Op→Bool
  | .assign _ | .alloc _ | .box _ _ | .buildSlice _ _ _ | .makeSlice _ _ _ | .store _ _ _=>false
  | .call {callee:=.builtin .len,..} | .call {callee:=.builtin .max,..} | .call {callee:=.builtin .min,..}=>true
  | .call _=>false
  | _=>true
def guardV (s:St) (rg:Array Oper) (j:Nat) (want:Bool):Option Bool:=
  match (rg[j]?).bind (·.dst) with
  | some d=>match s.get d with
    | .bool b=>some (bif want then b else !b)
    | .opt g (.bool b)=>some (g && (bif want then b else !b))
    | .opt false _=>some false
    | _=>none
  | none=>none
def aStepM (P:Program) (L:Lend) (rg:Array Oper) (o:Oper) (s:St) (K:St→Prop):Prop:=
  dstOK o.dst s.n∧match o.guard with
  | none=>aExec P L s o fun v s'=>K (s'.set o.dst v)
  | some (j,want)=>match guardV s rg j want with
    | none=>False
    | some G=>
      bif optable o.op then aop P s s.O.length G o.op fun v new vw=>new=[]∧vw=s.vw∧K (s.set o.dst (v.wrap G))
      else match o.op with
        | .call {callee:=.value _,..}=>
          bif scalarT P o.type then ∃r,(G=true→aExec P L s o fun v s'=>v=r∧s'={s with O:=s.O++[]})∧K (s.set o.dst (.opt G r))
          else (G=true→aExec P L s o fun v s'=>K (s'.set o.dst v))∧(G=false→K (s.set o.dst (.opt false .any)))
        | _=>(G=true→aExec P L s o fun v s'=>K (s'.set o.dst v))∧(G=false→K (s.set o.dst (.opt false .any)))
def aKeepOp (P:Program) (s:St) (o:Oper) (K:V→St→Prop):Prop:=
  match o.op with
  | .call {callee:=.builtin .append,args,argTypes}=>
    (args.size=2∧argTypes.size=2∧argTypes.getD 0 0=argTypes.getD 1 0∧(s.ev (args.getD 0 default)).gd=true∧(s.ev (args.getD 1 default)).gd=true)∧
    aKeep P s (argTypes.getD 0 0) K (s.ev (args.getD 0 default)).un (s.ev (args.getD 1 default)).un
  | _=>False
def aStep (P:Program) (L:Lend) (rg:Array Oper) (o:Oper) (s:St) (K:St→Prop):Prop:=
  aStepM P L rg o s K∨(dstOK o.dst s.n∧∃j want G,o.guard=some (j,want)∧guardV s rg j want=some G∧(G=true→aExec P L s o fun v s'=>K (s'.set o.dst (.opt true v)))∧(G=false→∃v,K (s.set o.dst (.opt false v))))∨
    (dstOK o.dst s.n∧o.guard=none∧aKeepOp P s o fun v s'=>K (s'.set o.dst v))
def aOps (P:Program) (L:Lend) (rg:Array Oper) (K:St→Prop):List Oper→St→Prop
  | [],s=>K s
  | o::rest,s=>aStep P L rg o s (aOps P L rg K rest)
def aAny (P:Program) (L:Lend) (rg:Array Oper) (K:St→Prop):Nat→Array Bool→St→Prop
  | 0,listed,s=>Region.ready .any rg listed=[]∧K s
  | fuel+1,listed,s=>(Region.ready .any rg listed=[]→K s)∧∀i∈Region.ready .any rg listed,∀o,rg[i]? =some o→aStep P L rg o s (aAny P L rg K fuel (listed.setIfInBounds i true))
inductive AEx where
  | normal
  | exit (id:Nat)
  | ret
def Weak (m:Nat) (s s':St):Prop:=∀(cx:Cx) (a:Act) (w:World) (μ:Nat→Option Loc) (ow:Ow),(∀id,m≤id→cx.mu0 id=none)→Rel cx s a w μ ow→∃μ' ow',Rel cx s' a w μ' ow'
def loopN (m:Nat) (step:(AEx→St→Prop)→St→Prop) (Q:AEx→St→Prop):Nat→St→Prop
  | 0,_=>False
  | n+1,s=>∃s₁,Weak m s s₁∧step (fun e s'=>match e with | .normal=>loopN m step Q n s' | e=>Q e s') s₁
def awp (P:Program) (L:Lend) (m:Nat):Code→(AEx→St→Prop)→St→Prop
  | .skip,Q,s=>Q .normal s
  | .region _ ops false,Q,s=>aOps P L ops (fun s'=>Q .normal s') ops.toList s
  | .region _ ops true,Q,s=>P.follows .mixedOrders=true∧aAny P L ops (fun s'=>∃s₁,Weak m s' s₁∧Q .normal s₁) ops.size (Array.replicate ops.size false) s
  | .seq x y,Q,s=>awp P L m x (fun e s'=>match e with | .normal=>∃s₁,Weak m s' s₁∧awp P L m y Q s₁ | e=>Q e s') s
  | .cond c x y,Q,s=>match s.ev c with
    | .bool b=>(b=true→awp P L m x Q s)∧(b=false→awp P L m y Q s)
    | _=>False
  | .block id x,Q,s=>awp P L m x (fun e s'=>match e with | .exit i=>if i=id then Q .normal s' else Q (.exit i) s' | e=>Q e s') s
  | .loop x,Q,s=>∃n,loopN m (awp P L m x) Q n s
  | .exit id,Q,s=>Q (.exit id) s
  | .ret,Q,s=>Q .ret s
  | _,_,_=>False
section
variable {P:Program} {L:Lend} {cx:Cx} {s:St} {a:Act} {w:World} {μ:Nat→Option Loc} {ow:Ow} {o:Oper}
theorem Rel.set (h:Rel cx s a w μ ow) {d:Option Nat} {v:V} {x:Value} (hd:dstOK d s.n) (hr:∃bl,Rep w μ v x bl∧∀b∈bl,VOK cx ow s.vw b):Rel cx (s.set d v) (a.put d x) w μ ow:=by
  obtain ⟨bl,r1,r2⟩:=hr;refine ⟨by cases d<;>exact h.dfr,by cases d<;>simp [Act.put,St.set,h.sz],fun t=> ?_,h.blk,h.dom,h.owl,h.own,h.frm,h.mu⟩
  cases d with
  | none=>exact h.env t
  | some d=>
    have hget:(s.set (some d) v).get t=if t=d then v else s.get t:=by
      simp[St.get,St.set,look,Nat.beq,absurd,Nat.eq_of_beq_eq_true]
    have hslot:(a.put (some d) x).tmps.getD t undef=if t=d then x else a.tmps.getD t undef:=by
      show (a.tmps.setIfInBounds d x).getD t undef=_;exact getD_setIfInBounds _ _ _ _ (by rw [h.sz];exact hd)
    rw [hget,hslot]
    by_cases e:t=d
    · rw [if_pos e,if_pos e];exact ⟨bl,r1,r2⟩
    · rw [if_neg e,if_neg e];exact h.env t
theorem St.put_eq (s:St) (d:Option Nat) (v:V) (new:List Blk) (vw:Bool):s.put d v new vw=({s with O:=s.O++new,vw:=vw}:St).set d v:=by cases d<;>rfl
theorem upon_enter {f:FuncId} {args:Array Value} {next:Act→World→Prop} {Q:Exit→Act→World→Prop} {w':World} (h:Calls P f args w' fun e w''=>∃v,e=.returned v∧next (a.put o.dst v) w'') :
    o.upon P a next Q (.ok (.enter f args) w'):=by
  rw [Oper.upon_enter];refine h.mono fun e w'' ⟨v,he,hn⟩=> ?_
  grind
theorem run_callFunc {f:FuncId} {args:Array Value} (h:∃fn,P.funcs[f]? =some fn∧(fn.name == "runtime.NumGoroutine")=false∧fn.body.isNone=false):(callFunc f args).run P w=.ok (.enter f args) w:=by
  obtain ⟨fn,h1,h2,h3⟩:=h;simp only [callFunc,Sem.run_bind,run_program,Result.andThen_ok,h1,h2,h3,Bool.false_eq_true,if_false,Sem.run_pure]
theorem RepL.ofList (h:Sup cx s a w μ ow):∀l:List Operand,(∀x∈l,(s.ev x).gd=true)→∃bl,RepL w μ (l.map fun x=>(s.ev x).un) (l.map a.eval) bl∧∀b∈bl,VOK cx ow s.vw b
  | [],_=>⟨[],.nil,by simp⟩
  | x::l,hg=>by
    obtain ⟨bl,h1,h2⟩:=RepL.ofList h l fun y hy=>hg y (qlg _ hy)
    obtain ⟨bx,r1,r2⟩:=h.evu x (hg x (qle ..));exact ⟨bx++bl,.cons _ _ _ _ _ _ r1 h1,fun b hb=>(qll.1 hb).elim (r2 b) (h2 b)⟩
theorem aKeepOp_sound (h:Rel cx s a w μ ow) (hd:dstOK o.dst s.n) {K:V→St→Prop} (hk:aKeepOp P s o K) {next:Act→World→Prop} {Q:Exit→Act→World→Prop}
    (hnext:∀v val s' w' μ' ow',Rel cx (s'.set o.dst val) (a.put o.dst v) w' μ' ow'→s'.n=s.n→K val s'→next (a.put o.dst v) w'):o.wp P a w next Q:=by
  unfold aKeepOp at hk;split at hk
  · rename_i args tys ho
    obtain ⟨⟨s1,s2,s3,g1,g2⟩,hk⟩:=hk;have e1:args=#[args.getD 0 default,args.getD 1 default]:=by
      obtain ⟨l⟩:=args
      match l,s1 with
      | [x,y],_=>simp
    have e2:tys=#[tys.getD 0 0,tys.getD 0 0]:=by
      obtain ⟨l⟩:=tys
      match l,s2,s3 with
      | [x,y],_,s3=>simp at s3⊢;exact s3.symm
    obtain ⟨v,w',val,s',μ',ow',hrun,hrel,hn,hrep,hk'⟩:=keep_sound h (tys.getD 0 0) (args.getD 0 default) (args.getD 1 default) _ ho rfl e1 e2 g1 g2 hk;unfold Oper.wp;rw [hrun,Oper.upon_value];exact hnext v val s' w' μ' ow' (hrel.set (by rw [hn];exact hd) hrep) hn hk'
  · exact hk.elim
theorem aExec_sound (hT:cx.tabs=tabsOf P) (h:Rel cx s a w μ ow) (hd:dstOK o.dst s.n) {K:V→St→Prop} (hk:aExec P L s o K) {next:Act→World→Prop} {Q:Exit→Act→World→Prop}
    (hnext:∀v val s' w' μ' ow',Rel cx (s'.set o.dst val) (a.put o.dst v) w' μ' ow'→s'.n=s.n→K val s'→next (a.put o.dst v) w'):o.wp P a w next Q:=by
  have hsup:=h.sup;have quiet:aop P s s.O.length true o.op (fun v new vw=>K v {s with O:=s.O++new,vw:=vw})→o.wp P a w next Q:=by
    intro q;obtain ⟨v,w',val,new,vw',hrun,g,hk'⟩:=aop_sound hsup q;unfold Oper.wp;rw [hrun,Oper.upon_value];obtain ⟨μ',ow',hrel⟩:=h.put (d:=o.dst) (fun t e=>by rw [e] at hd;exact hd) g;rw [St.put_eq] at hrel;exact hnext v val _ w' μ' ow' hrel rfl hk'
  unfold aExec at hk;split at hk
  · rename_i T p x ho
    obtain ⟨hdst,⟨g1,g2⟩,hk⟩:=hk;obtain ⟨w',s',μ',ow',hrun,hrel,hn,hk'⟩:=store_sound h T p x ho g1 g2 hk;unfold Oper.wp;rw [hrun,Oper.upon_skip];refine hnext undef .any s' w' μ' ow' ?_ hn hk';rw [hdst];exact hrel
  · rename_i args tys ho
    obtain ⟨⟨s1,s2,s3,g1,g2⟩,hk⟩:=hk;have e1:args=#[args.getD 0 default,args.getD 1 default]:=by
      obtain ⟨l⟩:=args
      match l,s1 with
      | [x,y],_=>simp
    have e2:tys=#[tys.getD 0 0,tys.getD 0 0]:=by
      obtain ⟨l⟩:=tys
      match l,s2,s3 with
      | [x,y],_,s3=>simp at s3⊢;exact s3.symm
    obtain ⟨v,w',val,s',μ',ow',hrun,hrel,hn,hrep,hk'⟩:=append_sound h (tys.getD 0 0) (args.getD 0 default) (args.getD 1 default) _ ho rfl e1 e2 g1 g2 hk;unfold Oper.wp;rw [hrun,Oper.upon_value];exact hnext v val s' w' μ' ow' (hrel.set (by rw [hn];exact hd) hrep) hn hk'
  · rename_i args tys ho
    obtain ⟨⟨s1,s2,g1,g2⟩,hk⟩:=hk;have e1:args=#[args.getD 0 default,args.getD 1 default]:=by
      obtain ⟨l⟩:=args
      match l,s1 with
      | [x,y],_=>simp
    have e2:tys=#[tys.getD 0 0,tys.getD 1 0]:=by
      obtain ⟨l⟩:=tys
      match l,s2 with
      | [x,y],_=>simp
    obtain ⟨v,w',val,s',μ',ow',hrun,hrel,hn,hrep,hk'⟩:=copy_sound h (tys.getD 0 0) (tys.getD 1 0) (args.getD 0 default) (args.getD 1 default) _ ho rfl e1 e2 g1 g2 hk;unfold Oper.wp;rw [hrun,Oper.upon_value];exact hnext v val s' w' μ' ow' (hrel.set (by rw [hn];exact hd) hrep) hn hk'
  · rename_i args tys ho
    obtain ⟨⟨hdst,s1,s2,g1⟩,hk⟩:=hk;have e1:=getD_one (d:=default) s1;have e2:=getD_one (d:=0) s2;obtain ⟨w',s',μ',ow',hrun,hrel,hn,hk'⟩:=clear_sound h (tys.getD 0 0) (args.getD 0 default) _ ho rfl e1 e2 g1 hk;unfold Oper.wp;rw [hrun,Oper.upon_value];refine hnext (.tuple #[]) .any s' w' μ' ow' ?_ hn hk';rw [hdst];exact hrel
  · rename_i f args tys ho
    split at hk
    · rename_i g caps hf
      obtain ⟨⟨gf,ga⟩,hk⟩:=hk;obtain ⟨bf,rf,vf⟩:=hsup.evu f gf;rw [hf] at rf;obtain ⟨bl,rl,vl⟩:=RepL.ofList hsup args.toList ga;generalize haf:a.eval f=af at rf;cases rf with
      | fn _ _ cvs _ hcl=>
        have hall:=rl.append hcl;have hbl:∀b∈bl++bf,VOK cx ow s.vw b:=fun b hb=>(qll.1 hb).elim (vl b) (vf b)
        have hcon:∃fn,P.funcs[g]? =some fn∧(fn.name == "runtime.NumGoroutine")=false∧fn.body.isNone=false:=by
          rcases hk with ⟨_,_,_,_,_,_,_,_,_,_,_,_,_,hc,_⟩ | ⟨_,_,_,_,_,_,_,_,_,_,hc,_⟩
          · exact hc.1
          · exact hc.1
        have hcalls:=call_state hT h g _ _ (args.map a.eval++cvs.toArray) (by have:=hall.length;simp at this⊢;omega) (by
          intro i v hv;obtain ⟨x,b,k1,k2,k3⟩:=hall.get i v hv;refine ⟨b,?_,fun y hy=>hbl y (k3 y hy)⟩;have:(args.map a.eval++cvs.toArray).getD i undef=x:=by
            rw [ql9];have e3:(args.map a.eval++cvs.toArray)[i]? =some x:=by
              rw [←Array.getElem?_toList];simpa using k1
            rw [e3];rfl
          rw [this];exact k2) hk
        have hrun:(execOp a.eval o).run P w=.ok (.enter g (args.map a.eval++cvs.toArray)) w:=by
          unfold execOp;rw [ho];simp only [Sem.run_bind,resolve,haf,Deferred.ofValue,Sem.run_pure,Result.andThen_ok,invoke,Array.empty_append,run_callFunc hcon]
        unfold Oper.wp;rw [hrun];refine upon_enter (hcalls.mono ?_);rintro e w' ⟨v,rfl,val,s',μ2,ow2,hrel,hn,hrep,hk'⟩;exact ⟨v,rfl,hnext v val s' w' μ2 ow2 (hrel.set (by rw [hn];exact hd) hrep) hn hk'⟩
    · exact hk.elim
  · exact quiet hk
end
end Go.Vm
namespace Go.Vm
open Go
section
variable {P:Program} {L:Lend} {cx:Cx} {s:St} {nid:Nat} {a:Act} {w:World} {μ:Nat→Option Loc} {ow:Ow} {o:Oper}
theorem aBin_some {G:Bool} {op:BinOp} {t:TypeId} {vw:Bool} {K:KV} {x y:V} (h:aBin P G op t vw K x y):∃v new vw',K v new vw':=by
  unfold aBin at h;split at h
  · grind
  · cases op<;>simp only [] at h<;>first | grind | grind | exact h.elim
  · grind
  · grind
  grind
theorem aop_some {G:Bool} {op:Op} {K:KV} (h:aop P s nid G op K):∃v new vw',K v new vw':=by
  cases op<;>simp only [aop] at h
  case move=>grind
  case assign=>grind
  case pick=>
    grind
  case alloc=>
    grind
  case box=>grind
  case build=>
    grind
  case buildSlice=>
    grind
  case load=>
    obtain ⟨_,h⟩:=h;unfold aLoad at h
    grind
  case nilCheck=>
    grind
  case binOp op xt x y yt=>
    obtain ⟨_,h⟩:=h;cases hn:isNil y with
    | false=>rw [hn,cond_false] at h;exact aBin_some h
    | true=>
      rw [hn,cond_true] at h;obtain ⟨_,_,h⟩:=h;cases hv:(s.ev x).un<;>rw [hv] at h<;>simp only at h
      case sl xs=>exact ⟨_,_,_,h false fun _=>rfl⟩
      case nsl=>exact ⟨_,_,_,h false⟩
      case ref id=>
        split at h
        · exact ⟨_,_,_,h false fun _=>rfl⟩
        grind
      case sub id lo n=>exact ⟨_,_,_,h false fun _=>rfl⟩
  case unOp=>
    obtain ⟨_,h⟩:=h;unfold aUn at h
    grind
  case convert=>
    grind
  case makeFunc fn first cap=>
    cases fn<;>try exact h.elim
    grind
  case makeSlice=>
    grind
  case slice=>
    obtain ⟨_,_,h⟩:=h;unfold aSlice at h;split at h
    · grind
    · grind
    · grind
    · grind
    grind
  case fieldAddr=>
    grind[aFieldAddr]
  case field=>
    obtain ⟨_,h⟩:=h;unfold aField at h
    grind
  case indexAddr=>
    obtain ⟨_,h⟩:=h;unfold aIndexAddr at h;split at h
    · grind
    · grind
    · grind
    · grind
    · grind
    grind
  case index=>
    obtain ⟨_,h⟩:=h;unfold aIndex at h
    grind
  case extract=>
    obtain ⟨_,h⟩:=h;unfold aExtract at h
    grind
  case call c=>
    obtain ⟨callee,args,tys⟩:=c;cases callee<;>try exact h.elim
    rename_i b;cases b<;>try exact h.elim
    case len=>
      obtain ⟨_,_,_,_,h⟩:=h;unfold aLen at h
      grind
    all_goals
      obtain ⟨_,h⟩:=h;unfold aMinMax at h
      grind
  all_goals exact h.elim
theorem rep_wrap_true {v:V} {x:Value} {bl:List Nat} (h:Rep w μ v x bl):Rep w μ (v.wrap true) x bl:=by
  cases v with
  | opt g v=>simpa [V.wrap] using h
  | _=>exact .optT _ _ _ h
theorem rep_wrap_false (v:V):Rep w μ (v.wrap false) undef []:=by
  cases v with
  | opt g v=>simp only [V.wrap,Bool.false_and];exact .optF _
  | _=>exact .optF _
theorem rep_wrap_false' (v:V):Rep w μ (.opt false v) undef []:=.optF v
theorem Gives.wrap {v:Value} {w':World} {val:V} {new:List Blk} {vw':Bool} (g:Gives cx s nid w μ ow v w' val new vw'):Gives cx s nid w μ ow v w' (val.wrap true) new vw':=by
  obtain ⟨g1,g2,locs,ow',h1,h2,h3,h4,h5⟩:=g;refine ⟨g1,g2,locs,ow',h1,h2,h3,h4,fun μ' hm hl=> ?_⟩;obtain ⟨⟨bl,r1,r2⟩,k⟩:=h5 μ' hm hl;exact ⟨⟨bl,rep_wrap_true r1,r2⟩,k⟩
theorem St.put_nil (s:St) (d:Option Nat) (v:V):s.put d v [] s.vw=s.set d v:=by cases d<;>simp [St.put,St.set]
theorem St.O_nil (s:St):({s with O:=s.O++[]}:St)=s:=by simp
theorem Rel.optTrue {d:Option Nat} {v:V} (h:Rel cx (s.set d v) a w μ ow):Rel cx (s.set d (.opt true v)) a w μ ow:=by
  refine ⟨h.dfr,by cases d<;>exact h.sz,fun t=> ?_,by cases d<;>exact h.blk,by cases d<;>exact h.dom,h.owl,h.own,h.frm,h.mu⟩
  cases d with
  | none=>exact h.env t
  | some d=>
    obtain ⟨bl,r1,r2⟩:=h.env t
    by_cases e:Nat.beq t d=true
    · have e1:(s.set (some d) v).get t=v:=by simp [St.get,St.set,look,e]
      have e2:(s.set (some d) (.opt true v)).get t=.opt true v:=by simp [St.get,St.set,look,e]
      rw [e1] at r1;rw [e2];exact ⟨bl,.optT _ _ _ r1,r2⟩
    · have e0:Nat.beq t d=false:=Bool.eq_false_iff.2 e
      grind[get,St.get,St.set,look]
theorem guard_sound (h:∀t,∃bl,Rep w μ (s.get t) (a.tmps.getD t undef) bl∧∀b∈bl,VOK cx ow s.vw b) {rg:Array Oper} {j:Nat} {want G:Bool} (hg:guardV s rg j want=some G) (ho:o.guard=some (j,want)) :
    Region.wanted o (yielded rg a.tmps)=G:=by
  unfold guardV at hg;unfold Region.wanted;rw [ho];simp only;unfold yielded;cases hd:(rg[j]?).bind (·.dst) with
  | none=>grind
  | some d=>
    rw [hd] at hg;obtain ⟨bl,r,_⟩:=h d;simp only [Option.bind_some];have hx:∀b,a.tmps.getD d undef=.bool b→a.tmps[d]? =some (.bool b):=by
      intro b e;rw [ql9] at e;cases q:a.tmps[d]? with
      | none=>rw [q] at e;cases e
      | some v=>grind
    simp only at hg;generalize hv:s.get d=v at *;split at hg
    · rename_i b
      simp only [Option.some.injEq] at hg;subst hg;rw [hx b r.bool_inv];cases b<;>cases want<;>rfl
    · rename_i g b
      simp only [Option.some.injEq] at hg;subst hg;cases g with
      | false=>
        have e:a.tmps.getD d undef=undef:=by
          generalize a.tmps.getD d undef=x at r;cases r;rfl
        rw [ql9] at e;cases q:a.tmps[d]? with
        | none=>rfl
        | some v=>rw [q] at e;simp at e;subst e;rfl
      | true=>
        have e:a.tmps.getD d undef=.bool b:=by
          generalize a.tmps.getD d undef=x at r;cases r with
          | optT _ _ _ r=>exact r.bool_inv
        grind
    · simp only [Option.some.injEq] at hg
      subst hg;have e:a.tmps.getD d undef=undef:=by
        generalize a.tmps.getD d undef=x at r;cases r;rfl
      rw [ql9] at e;cases q:a.tmps[d]? with
      | none=>rfl
      | some v=>rw [q] at e;simp at e;subst e;rfl
    grind
theorem aStepM_sound (hT:cx.tabs=tabsOf P) (h:Rel cx s a w μ ow) {rg:Array Oper} {K:St→Prop} (hk:aStepM P L rg o s K) {next:Act→World→Prop} {Q:Exit→Act→World→Prop}
    (hnext:∀s' a' w' μ' ow',Rel cx s' a' w' μ' ow'→s'.n=s.n→K s'→next a' w') :
    if Region.wanted o (yielded rg a.tmps) then o.wp P a w next Q else next (a.put o.dst undef) w:=by
  obtain ⟨hd,hk⟩:=hk;have setn:∀(s':St) d v,(s'.set d v).n=s'.n:=by intro s' d v;cases d<;>rfl
  cases hg:o.guard with
  | none=>
    rw [hg] at hk;have:Region.wanted o (yielded rg a.tmps)=true:=by simp [Region.wanted,hg]
    rw [if_pos this]
    grind[aExec_sound,trans]
  | some jw =>
    obtain ⟨j,want⟩:=jw;rw [hg] at hk;simp only at hk;cases hv:guardV s rg j want with
    | none=>grind
    | some G =>
      rw [hv] at hk;simp only at hk;have hw:=guard_sound (o:=o) h.env hv hg;rw [hw];have both:((G=true→aExec P L s o fun v s'=>K (s'.set o.dst v))∧(G=false→K (s.set o.dst (.opt false .any))))→if G=true then o.wp P a w next Q else next (a.put o.dst undef) w:=by
        rintro ⟨h1,h2⟩;cases G with
        | true=>
          rw [if_pos rfl];exact aExec_sound hT h hd (h1 rfl) fun v val s' w' μ' ow' hrel hn hK=>hnext _ _ _ _ _ hrel ((setn _ _ _).trans hn) hK
        | false=>
          rw [if_neg (by simp)];exact hnext _ _ _ _ _ (h.set hd ⟨[],.optF _,by simp⟩) (setn _ _ _) (h2 rfl)
      cases ht:optable o.op with
      | true=>
        rw [ht,cond_true] at hk;cases G with
        | true=>
          rw [if_pos rfl];obtain ⟨v,w',val,new,vw',hrun,g,e1,e2,hK⟩:=aop_sound h.sup hk;subst e1;subst e2;obtain ⟨μ',ow',hrel⟩:=h.put (d:=o.dst) (fun t e=>by rw [e] at hd;exact hd) g.wrap
          grind[St.put_nil,Oper.wp,Oper.upon_value]
        | false=>
          rw [if_neg (by simp)];obtain ⟨v,new,vw',_,_,hK⟩:=aop_some hk;exact hnext _ _ _ _ _ (h.set hd ⟨[],rep_wrap_false v,by simp⟩) (setn _ _ _) hK
      | false =>
        rw [ht,cond_false] at hk;split at hk
        · cases hs:scalarT P o.type with
          | true=>
            rw [hs,cond_true] at hk;obtain ⟨r,h1,h2⟩:=hk;cases G with
            | true=>
              rw [if_pos rfl];refine aExec_sound hT h hd (h1 rfl) fun v val s' w' μ' ow' hrel hn hK=> ?_
              obtain ⟨rfl,rfl⟩:=hK;rw [St.O_nil] at hrel;exact hnext _ _ _ _ _ hrel.optTrue (setn _ _ _) h2
            | false=>
              rw [if_neg (by simp)];exact hnext _ _ _ _ _ (h.set hd ⟨[],.optF _,by simp⟩) (setn _ _ _) h2
          | false=>
            grind
        grind
theorem aStep_sound (hT:cx.tabs=tabsOf P) (h:Rel cx s a w μ ow) {rg:Array Oper} {K:St→Prop} (hk:aStep P L rg o s K) {next:Act→World→Prop} {Q:Exit→Act→World→Prop}
    (hnext:∀s' a' w' μ' ow',Rel cx s' a' w' μ' ow'→s'.n=s.n→K s'→next a' w') :
    if Region.wanted o (yielded rg a.tmps) then o.wp P a w next Q else next (a.put o.dst undef) w:=by
  rcases hk with hk | ⟨hd,j,want,G,hg,hv,h1,h2⟩ | ⟨hd,hg,hk⟩
  · exact aStepM_sound hT h hk hnext
  · rw [guard_sound (o:=o) h.env hv hg]
    cases G with
    | true=>
      rw [if_pos rfl];refine aExec_sound hT h hd (h1 rfl) fun v val s' w' μ' ow' hrel hn hK=> ?_
      exact hnext _ _ _ _ _ hrel.optTrue (by cases o.dst<;>exact hn) hK
    | false=>
      rw [if_neg (by simp)];obtain ⟨v,hk⟩:=h2 rfl;exact hnext _ _ _ _ _ (h.set hd ⟨[],rep_wrap_false' v,by simp⟩) (by cases o.dst<;>rfl) hk
  · have hw:Region.wanted o (yielded rg a.tmps)=true:=by unfold Region.wanted;rw [hg]
    rw [if_pos hw];exact aKeepOp_sound h hd hk fun v val s' w' μ' ow' hrel hn hK=>hnext _ _ _ _ _ hrel (by cases o.dst<;>exact hn) hK
theorem aOps_sound (hT:cx.tabs=tabsOf P) {rg:Array Oper} {K:St→Prop} {Q:Exit→Act→World→Prop}:∀(l:List Oper) {s:St} {a:Act} {w:World} {μ:Nat→Option Loc} {ow:Ow},Rel cx s a w μ ow→aOps P L rg K l s→
    (∀s' a' w' μ' ow',Rel cx s' a' w' μ' ow'→s'.n=s.n→K s'→Q .normal a' w')→wpList P rg Q l a w
  | [],s,a,w,μ,ow,h,hk,hq=>hq s a w μ ow h rfl hk
  | o::rest,s,a,w,μ,ow,h,hk,hq=>by
    have hstep:=aStep_sound (next:=wpList P rg Q rest) (Q:=Q) hT h hk fun s' a' w' μ' ow' hrel hn hK=>aOps_sound hT rest hrel hK fun s2 a2 w2 μ2 ow2 r2 n2 k2=>hq s2 a2 w2 μ2 ow2 r2 (n2.trans hn) k2
    unfold wpList
    grind
theorem Rel.forget {env':List (Nat×V)} (h:Rel cx s a w μ ow) (he:∀t,look t env'=s.get t∨look t env'=.any) {m:Nat}:Rel cx {s with env:=env',mask:=m} a w μ ow:=by
  refine ⟨h.dfr,h.sz,fun t=> ?_,h.blk,h.dom,h.owl,h.own,h.frm,h.mu⟩;rcases he t with e | e
  · obtain ⟨bl,r1,r2⟩:=h.env t
    exact ⟨bl,by show Rep w μ (look t env') _ bl;grind,r2⟩
  · exact ⟨[],by show Rep w μ (look t env') _ [];rw [e];exact .any _,by simp⟩
theorem Rel.drew (h:Rel cx s a w μ ow):∃μ' ow',Rel cx s a {w with drawn:=w.drawn+1} μ' ow':=by
  have g:Gives cx s s.O.length w μ ow undef {w with drawn:=w.drawn+1} .any [] s.vw:=
    ⟨Ext.drew w,id,[],ow,rfl,fun _ _=>rfl,fun _ _=>rfl,h.owl,fun μ' _ _=>⟨⟨[],.any _,by simp⟩,by simp⟩⟩
  obtain ⟨μ',ow',hr⟩:=h.put (d:=none) (fun t e=>by cases e) g;refine ⟨μ',ow',?_⟩;rw [St.put_nil] at hr;exact hr
theorem aAny_sound (hT:cx.tabs=tabsOf P) {rg:Array Oper} {K:St→Prop} {Q:Exit→Act→World→Prop}:∀(fuel:Nat) (listed:Array Bool) {s:St} {a:Act} {w:World} {μ:Nat→Option Loc} {ow:Ow},Rel cx s a w μ ow→aAny P L rg K fuel listed s→
    (∀s' a' w' μ' ow',Rel cx s' a' w' μ' ow'→K s'→Q .normal a' w')→wpAny P .any rg Q fuel listed a w:=by
  intro fuel
  induction fuel with
  | zero=>intro listed s a w μ ow h hk hq;exact ⟨hk.1,hq _ _ _ _ _ h hk.2⟩
  | succ fuel ih=>
    intro listed s a w μ ow h hk hq;refine ⟨fun h0=>hq _ _ _ _ _ h (hk.1 h0),fun i hi=> ?_⟩;unfold wpOp;cases ho:rg[i]? with
    | none=>
      grind[mem_ready]
    | some o=>
      have:=aStep_sound (next:=wpAny P .any rg Q fuel (listed.setIfInBounds i true)) (Q:=Q) hT h (hk.2 i hi o ho) fun s' a' w' μ' ow' hrel _ hK=>ih _ hrel hK hq
      grind
def toExit:AEx→Exit
  | .normal=>.normal
  | .exit id=>.exit id
  | .ret=>.ret
theorem awp_sound (hT:cx.tabs=tabsOf P) {m:Nat} (hm:∀id,m≤id→cx.mu0 id=none):∀(c:Code) {Q:AEx→St→Prop} {Q':Exit→Act→World→Prop} {s:St} {a:Act} {w:World} {μ:Nat→Option Loc} {ow:Ow},Rel cx s a w μ ow→awp P L m c Q s→
    (∀e s' a' w' μ' ow',Rel cx s' a' w' μ' ow'→Q e s'→Q' (toExit e) a' w')→c.wp P Q' a w:=by
  intro c
  induction c with
  | skip=>intro Q Q' s a w μ ow h hk hq;exact wp_skip (hq .normal s a w μ ow h hk)
  | region id ops draw=>
    intro Q Q' s a w μ ow h hk hq;cases draw with
    | true=>
      simp only [awp] at hk;obtain ⟨hmx,hk⟩:=hk;obtain ⟨μ',ow',h'⟩:=h.drew;refine wp_region_any hmx (aAny_sound hT _ _ h' hk fun s' a' w' μ' ow' hrel hK=> ?_);obtain ⟨s₁,hw,hK⟩:=hK;obtain ⟨μ₁,ow₁,hrel₁⟩:=hw _ _ _ _ _ hm hrel;exact hq .normal _ _ _ _ _ hrel₁ hK
    | false=>
      simp only [awp] at hk;exact wp_region_list (aOps_sound hT ops.toList h hk fun s' a' w' μ' ow' hrel _ hK=>hq .normal _ _ _ _ _ hrel hK)
  | seq x y ihx ihy=>
    intro Q Q' s a w μ ow h hk hq;simp only [awp] at hk;refine wp_seq (ihx h hk fun e s' a' w' μ' ow' hrel hK=> ?_);cases e with
    | normal=>
      obtain ⟨s₁,hw,hK⟩:=hK;obtain ⟨μ₁,ow₁,hrel₁⟩:=hw _ _ _ _ _ hm hrel;exact ihy hrel₁ hK hq
    | exit id=>exact hq _ _ _ _ _ _ hrel hK
    | ret=>exact hq _ _ _ _ _ _ hrel hK
  | cond c x y ihx ihy=>
    intro Q Q' s a w μ ow h hk hq;simp only [awp] at hk;split at hk
    · rename_i b hc
      obtain ⟨bl,r,_⟩:=h.sup.ev c;rw [hc] at r;exact wp_cond_split r.bool_inv (fun e=>ihx h (hk.1 e) hq) (fun e=>ihy h (hk.2 e) hq)
    grind
  | block id x ih=>
    intro Q Q' s a w μ ow h hk hq;simp only [awp] at hk;refine wp_block (ih h hk fun e s' a' w' μ' ow' hrel hK=> ?_);cases e with
    | normal=>exact hq _ _ _ _ _ _ hrel hK
    | ret=>exact hq _ _ _ _ _ _ hrel hK
    | exit i=>
      simp only [toExit,Exit.inBlock]
      by_cases e:i=id
      · rw [if_pos e]
        simp only [e,if_true] at hK;exact hq _ _ _ _ _ _ hrel hK
      · rw [if_neg e]
        simp only [e,if_false] at hK;exact hq (.exit i) _ _ _ _ _ hrel hK
  | loop x ih=>
    intro Q Q' s a w μ ow h hk hq;simp only [awp] at hk;obtain ⟨n,hk⟩:=hk;let I:Act→World→Nat→Prop:=fun a w n=>∃s μ ow,Rel cx s a w μ ow∧loopN m (awp P L m x) Q n s
    intro b k cs;have key:∀n a w,I a w n→∃e a' w',Q' e a' w'∧Arrives P (lone (b.at a (.code x::.inLoop x::k)) cs w) b k cs e a' w':=by
      intro n
      induction n with
      | zero=>rintro a w ⟨s,μ,ow,_,hk⟩;exact hk.elim
      | succ n ihn=>
        rintro a w ⟨s₀,μ₀,ow₀,h₀,s,hw,hk⟩;obtain ⟨μ,ow,h⟩:=hw _ _ _ _ _ hm h₀;have h1:x.wp P (Exit.then (fun a' w'=>I a' w' n) Q') a w:=ih h hk fun e s' a' w' μ' ow' hrel hK=>by
          cases e with
          | normal=>exact ⟨s',μ',ow',hrel,hK⟩
          | exit id=>exact hq _ _ _ _ _ _ hrel hK
          | ret=>exact hq _ _ _ _ _ _ hrel hK
        obtain ⟨e,a₁,w₁,hq₁,harr⟩:=h1 b (.inLoop x::k) cs;cases e with
        | normal=>
          obtain ⟨e₂,a₂,w₂,hq₂,harr₂⟩:=ihn a₁ w₁ hq₁;exact ⟨e₂,a₂,w₂,hq₂,.of_steps (Steps.trans harr (.one step_inLoop)) harr₂⟩
        | exit id=>exact ⟨_,a₁,w₁,hq₁,.pass (x:=.inLoop x) rfl (fun _ _=>.inl (by simp)) harr⟩
        | goto l=>exact ⟨_,a₁,w₁,hq₁,.pass (x:=.inLoop x) rfl (fun _ _=>.inl (by simp)) harr⟩
        | ret=>exact ⟨_,a₁,w₁,hq₁,.pass (x:=.inLoop x) rfl (fun _ _=>.inl (by simp)) harr⟩
        | panic ch=>exact ⟨_,a₁,w₁,hq₁,.pass (x:=.inLoop x) rfl (fun _ _=>.inl (by simp)) harr⟩
        | outgrown=>exact ⟨_,a₁,w₁,hq₁,.pass (x:=.inLoop x) rfl (fun _ _=>.inl (by simp)) harr⟩
    obtain ⟨e,a',w',hq',harr⟩:=key n a w ⟨s,μ,ow,h,hk⟩;exact ⟨e,a',w',hq',.of_steps (.one step_loop) harr⟩
  | exit id=>intro Q Q' s a w μ ow h hk hq;exact wp_exit (hq (.exit id) s a w μ ow h hk)
  | ret=>intro Q Q' s a w μ ow h hk hq;exact wp_ret (hq .ret s a w μ ow h hk)
  | rangeFunc=>intro Q Q' s a w μ ow h hk hq;exact hk.elim
  | scope=>intro Q Q' s a w μ ow h hk hq;exact hk.elim
  | label=>intro Q Q' s a w μ ow h hk hq;exact hk.elim
  | goto=>intro Q Q' s a w μ ow h hk hq;exact hk.elim
  | refuse=>intro Q Q' s a w μ ow h hk hq;exact hk.elim
end
end Go.Vm
namespace Go.Vm
open Go
def envFrom (k:Nat):List V→List (Nat×V)
  | []=>[]
  | v::vs=>(k,v)::envFrom (k+1) vs
def resK (P:Program) (s:St):List ResultVar→(List V→Bool→Prop)→Prop
  | [],K=>K [] s.vw
  | .tmp t::l,K=>resK P s l fun vs vw=>K (s.get t::vs) vw
  | .cell t T::l,K=>resK P s l fun vs vw=>(s.get t).gd=true∧aLoad P s T true (fun v _ vw'=>K (v::vs) (vw || vw')) (s.get t).un
def pickRV:List V→V
  | [v]=>v
  | vs=>.tup vs
def refs1:V→List Nat
  | .ref id=>[id]
  | _=>[]
def refs2:V→List Nat
  | .agg cs=>cs.flatMap refs1
  | v=>refs1 v
def refsOf:V→List Nat
  | .tup vs=>vs.flatMap refs2
  | v=>refs2 v
def outNo (m:Nat) (nw:List Nat) (id:Nat):Nat:=if id < m then id else m+(idx nw id).getD 0
def RetOK (m:Nat) (s:St) (v:V) (r:V) (O':List Blk):Prop:=
  let nw:=(refsOf v).filter fun id=>Nat.ble m id
  (v.only (fun id=>Nat.blt id m || (idx nw id).isSome)=true∧nw.Nodup∧m≤s.O.length)∧
    r=v.ren (outNo m nw)∧O'=s.O.take m++nw.map (fun id=>s.O.getD id .dead)∧(∀bk∈O',bk.kindIs (fun k=>k.nm)=true)∧
    (s.vw=false∨(v.clean=true∧∀bk∈O',bk.kindIs (fun k=>k != .shal && k.nm)=true))
section
variable {P:Program} {L:Lend} {cx:Cx} {s:St} {a:Act} {w:World} {μ:Nat→Option Loc} {ow:Ow}
theorem look_envFrom:∀(l:List V) (k t:Nat),k≤t→look t (envFrom k l)=l.getD (t - k) .any
  | [],k,t,_=>by rfl
  | v ::vs,k,t,h=>by
    simp only [envFrom,look];cases e:Nat.beq t k with
    | true=>
      simp_all
    | false=>
      have hne:t≠k:=fun q=>by simp_all
      rw [cond_false,look_envFrom vs (k+1) t (by omega)]
      grind
def pickRes:List Value→Value
  | [x]=>x
  | xs=>.tuple xs.toArray
theorem load_val (h:Sup cx s a w μ ow) (T:TypeId) (p:Operand) {K:KV} (hg:(s.ev p).gd=true) (hk:aLoad P s T true K (s.ev p).un) :
    ∃v val vw' ad,a.eval p=.pointer (some ad)∧(loadVar T ad).run P w=.ok v w∧(∃bl,Rep w μ val v bl∧∀b∈bl,VOK cx ow vw' b)∧(s.vw=true→vw'=true)∧K val [] vw':=by
  obtain ⟨bx,rx,hb⟩:=h.evu p hg;have hrun:∀{ad v},(Instr.loadAt T (.pointer (some ad))).run P w=.ok v w→(loadVar T ad).run P w=.ok v w:=by
    intro ad v e;rw [←e];rfl
  generalize (s.ev p).un=vx at *;unfold aLoad at hk;split at hk
  · rename_i id i off
    obtain ⟨l,hl,hi,e⟩:=rx.ptr_inv;cases hrow:s.row id with
    | none=>grind
    | some xk=>
      obtain ⟨xs,k⟩:=xk;rw [hrow] at hk;obtain ⟨hT,hk⟩:=hk;obtain ⟨l',h1,h2,h3⟩:=h.row hrow;rw [hl] at h1;cases h1;rcases h3 with ⟨_,h3⟩ | ⟨_,h4,bl,h5,h6,h7⟩
      · grind
      · obtain ⟨vs,c1,c2,c3⟩:=h5.rowOf
        obtain ⟨v,b',r1,r2,r3⟩:=load_row (P:=P) (T:=T) (off:=off) (i:=i) (by omega) h5.each c1 c2 c3 (hT rfl);refine ⟨v,_,_,_,e,hrun r1,⟨b',r2.keep (k.mu_le μ) fun _ _=>rfl,?_⟩,(fun hv=>by grind),hk⟩;intro y hy;have hyb:=r3 y hy;cases k with
        | flat | thin=>have:bl=[]:=h6;grind
        | deep=>
          have hn:(part P T (xs.getD i .any) off).noSl=false:=by
            grind[part,noSl_nil]
          have hown:=h6.2 y hyb;refine ⟨.inr ⟨by grind,id,hown⟩,?_⟩;exact .inr (h.own y (by grind))
        | part=>
          have hn:(part P T (xs.getD i .any) off).noSl=false:=by
            grind[part,noSl_nil]
          have hown:=h6.2 y hyb;refine ⟨.inr ⟨by grind,id,hown⟩,?_⟩;exact .inr (h.own y (by grind))
        | shal=>exact (h6 y hyb).mono rfl (fun hv=>by grind)
        | mix=>exact (h6 y hyb).mono rfl (fun hv=>by grind)
  · rename_i xs i off
    obtain ⟨hT,hk⟩:=hk;obtain ⟨b,o',sz,vs,bl',hi,hs,hz,hl,h1,hr,rfl,e⟩:=rx.pv_inv;obtain ⟨v,b',r1,r2,r3⟩:=load_row (P:=P) (T:=T) (off:=off) hi hz hl h1 hr (hT rfl);exact ⟨v,_,_,_,e,hrun r1,⟨b',r2.keep (MLe.zero μ) fun _ _=>rfl,fun y hy=>hb y (qlg _ (r3 y hy))⟩,id,hk⟩
  grind
theorem Rel.up (h:Rel cx s a w μ ow) {vw:Bool} (hv:s.vw=true→vw=true):Rel cx {s with vw:=vw} a w μ ow:=by
  refine ⟨h.dfr,h.sz,fun t=> ?_,fun id bk e=> ?_,h.dom,h.owl,h.own,h.frm,h.mu⟩
  · obtain ⟨bl,r1,r2⟩:=h.env t
    exact ⟨bl,r1,fun b hb=>(r2 b hb).mono rfl hv⟩
  · have:=h.blk id bk e
    have key:∀xs k,RowOK cx w μ ow s.vw id xs k→RowOK cx w μ ow vw id xs k:=by
      rintro xs k ⟨l,h1,h2,h3⟩;refine ⟨l,h1,h2,h3.imp (fun q=>q) ?_⟩;rintro ⟨q1,q2,bl,q3,q4,q5⟩;exact ⟨q1,q2,bl,q3,q4.mono (fun _ _=>rfl) hv,q5⟩
    cases bk with
    | dead=>trivial
    | hid j' n'=>exact this
    | arr xs k=>exact key xs k this
    | box x k=>exact key [x] k this
theorem resF (rs:List ResultVar) (tmps:Array Value) (F:ResultVar→Sem Value) (hF:∀t,F (.tmp t)=pure (tmps.getD t undef)) (hC:∀t T,F (.cell t T)=(do loadVar T (←asAddr (tmps.getD t undef)))) :
    ∀{a:Act},a.tmps=tmps→Rel cx s a w μ ow→∀{K:List V→Bool→Prop},resK P s rs K→∃xs vs vw bl,(rs.mapM F).run P w=.ok xs w∧RepL w μ vs xs bl∧(∀b∈bl,VOK cx ow vw b)∧(s.vw=true→vw=true)∧K vs vw:=by
  intro a ha h
  induction rs with
  | nil=>intro K hk;exact ⟨[],[],s.vw,[],by simp,.nil,by simp,id,hk⟩
  | cons r rs ih=>
    intro K hk;cases r with
    | tmp t=>
      obtain ⟨xs,vs,vw,bl,h1,h2,h3,h4,h5⟩:=ih hk;obtain ⟨bt,r1,r2⟩:=h.env t;rw [ha] at r1;refine ⟨_,_,vw,bt++bl,?_,.cons _ _ _ _ _ _ r1 h2,fun b hb=>(qll.1 hb).elim (fun q=>(r2 b q).mono rfl h4) (h3 b),h4,h5⟩
      simp_all
    | cell t T=>
      obtain ⟨xs,vs,vw,bl,h1,h2,h3,h4,hg,h5⟩:=ih hk;obtain ⟨v,val,vw',ad,e1,e2,⟨bt,r1,r2⟩,e3,e4⟩:=load_val h.sup T (.tmp t) hg h5;have e1':tmps.getD t undef=.pointer (some ad):=by rw [←e1,←ha];rfl
      refine ⟨_,_,vw || vw',bt++bl,?_,.cons _ _ _ _ _ _ r1 h2,fun b hb=>(qll.1 hb).elim (fun q=>(r2 b q).mono rfl (by grind)) (fun q=>(h3 b q).mono rfl (by grind)),fun q=>by grind,e4⟩;have e5:(do loadVar T (←asAddr (tmps.getD t undef)):Sem Value).run P w=.ok v w:=by rw [e1',←e2];rfl
      grind[Sem.run_bind,Sem.run_pure,Result.andThen_ok]
def resF1 (tmps:Array Value):ResultVar→Sem Value
  | .tmp t=>pure (tmps.getD t undef)
  | .cell t T=>do loadVar T (←asAddr (tmps.getD t undef))
theorem run_results {fn:Func} (rs:List ResultVar) (hts:fn.results=rs.toArray) (h:Rel cx s a w μ ow) {K:List V→Bool→Prop} (hk:resK P s rs K) :
    ∃xs vs vw bl,(results fn a.tmps).run P w=.ok (pickRes xs) w∧RepL w μ vs xs bl∧(∀b∈bl,VOK cx ow vw b)∧(s.vw=true→vw=true)∧K vs vw:=by
  have key:∀(F:ResultVar→Sem Value),(∀t,F (.tmp t)=pure (a.tmps.getD t undef))→(∀t T,F (.cell t T)=(do loadVar T (←asAddr (a.tmps.getD t undef))))→
      ∃xs vs vw bl,(Functor.map List.toArray (List.mapM F rs)).run P w=.ok xs.toArray w∧RepL w μ vs xs bl∧(∀b∈bl,VOK cx ow vw b)∧(s.vw=true→vw=true)∧K vs vw:=by
    intro F hF hC;obtain ⟨xs,vs,vw,bl,h1,h2⟩:=resF rs a.tmps F hF hC rfl h hk;refine ⟨xs,vs,vw,bl,?_,h2⟩
    simp_all
  unfold results;rw [hts];simp only [Sem.run_bind,List.mapM_toArray];obtain ⟨xs,vs,vw,bl,h1,h2⟩:=key (resF1 a.tmps) (fun _=>rfl) (fun _ _=>rfl);refine ⟨xs,vs,vw,bl,?_,h2⟩;have e:∀G,G=resF1 a.tmps→(Functor.map List.toArray (List.mapM G rs)).run P w=.ok xs.toArray w:=by grind
  rw [e _ (by funext r;cases r<;>rfl)]
  simp only [Result.andThen_ok,Sem.run_pure]
  match xs with
  | []=>rfl
  | [t]=>rfl
  | t::u::l=>rfl
theorem pick_rep {vs:List V} {xs:List Value} {bl:List Nat} (h:RepL w μ vs xs bl):∃bl',Rep w μ (pickRV vs) (pickRes xs) bl'∧∀b∈bl',b∈bl:=by
  match vs,xs,h with
  | [],_,.nil=>exact ⟨[],.tup _ _ _ .nil,by simp⟩
  | [v],_,.cons _ _ bx _ _ _ h1 .nil=>exact ⟨bx,h1,fun b hb=>by grind⟩
  | v::u::l,_,.cons _ _ bx _ _ _ h1 (.cons _ _ by' _ _ bz h2 h3)=>exact ⟨_,.tup _ _ _ (.cons _ _ _ _ _ _ h1 (.cons _ _ _ _ _ _ h2 h3)),fun b hb=>hb⟩
theorem aLoad_monoR {s:St} {T:TypeId} {G:Bool} {K K':KV} (h:∀v n b,K v n b→K' v n b):∀{p:V},aLoad P s T G K p→aLoad P s T G K' p:=by
  intro p hp;cases p with
  | ptr id i off=>
    grind[aLoad]
  | pv xs i off=>exact ⟨hp.1,h _ _ _ hp.2⟩
  | _=>exact hp
theorem resK_mono {s:St}:∀{rs:List ResultVar} {K K':List V→Bool→Prop} (_:∀vs vw,K vs vw→K' vs vw),resK P s rs K→resK P s rs K'
  | [],_,_,h,q=>h _ _ q
  | .tmp t::l,_,_,h,q=>resK_mono (rs:=l) (fun _ _ z=>h _ _ z) q
  | .cell t T::l,_,_,h,q=>resK_mono (rs:=l) (fun _ _ z=>⟨z.1,aLoad_monoR (fun _ _ _ y=>h _ _ y) z.2⟩) q
theorem con_of_awpW {f:FuncId} {fn:Func} {c:Code} {args:List V} {O:List Blk} {R:V→List Blk→Prop} (rs:List ResultVar) (L:Lend) (mask:Nat) (hf:P.funcs[f]? =some fn) (hname:(fn.name == "runtime.NumGoroutine")=false)
    (hb:fn.body=some c) (hts:fn.results=rs.toArray) (hn:args.length≤fn.ntmps) {s1:St} (hweak:Weak O.length ⟨envFrom 0 args,O,false,fn.ntmps,mask⟩ s1)
    (h:awp P L O.length c (fun e s=>match e with | .exit _=>False | _=>∃s2,Weak O.length s s2∧resK P s2 rs fun vs vw=>∃r O',R r O'∧RetOK O.length {s2 with vw:=vw} (pickRV vs) r O') s1):ConX P f args O R:=by
  refine ⟨⟨fn,hf,hname,by rw [hb];rfl⟩,fun w vals μ ow vis hi=> ?_⟩;refine calls_of_wp hf hb ?_;let cx:Cx:=⟨w,fun b=>ow b≠none,vis,μ,tabsOf P⟩;have hrel:Rel cx ⟨envFrom 0 args,O,false,fn.ntmps,mask⟩ {tmps:=vals++Array.replicate (fn.ntmps - vals.size) undef,defers:=[]} w μ ow:=by
    refine ⟨rfl,?_,fun t=> ?_,fun id bk e=>(hi.blk id bk e).tabs,hi.dom,hi.owl,fun b hb=>.inl hb,⟨qlu _,fun _ _ _=>rfl,rfl,rfl,rfl,fun _ _=>rfl,fun p hp=>⟨fun q=>q (hi.tab p hp).1,(hi.tab p hp).2⟩⟩,MLe.refl _⟩
    · have:=hi.sz
      simp only [Array.size_append,Array.size_replicate];omega
    · show ∃bl,Rep w μ (look t (envFrom 0 args)) _ bl∧_
      rw [look_envFrom args 0 t (qlk _),Nat.sub_zero];cases e:args[t]? with
      | none=>
        rw [qld,e];exact ⟨[],.any _,by simp⟩
      | some v=>
        rw [qld,e];obtain ⟨bl,r1,r2⟩:=hi.arg t v e;have ht:t < vals.size:=by
          rw [hi.sz];rcases qly t args.length with q | q
          · exact q
          · rw [qlp q] at e;cases e
        have hslot:(vals++Array.replicate (fn.ntmps - vals.size) undef).getD t undef=vals.getD t undef:=by
          rw [ql9,ql9,Array.getElem?_append_left ht]
        exact ⟨bl,by rw [hslot];exact r1,fun b hb=>⟨.inl (r2 b hb).1,.inl (r2 b hb).2⟩⟩
  have hpost:∀(s':St) (a':Act) (w':World) (μ':Nat→Option Loc) (ow':Ow),Rel cx s' a' w' μ' ow'→(resK P s' rs fun vs vw=>∃r O',R r O'∧RetOK O.length {s' with vw:=vw} (pickRV vs) r O')→
      a'.defers=[]∧∃v,(results fn a'.tmps).run P w'=.ok v w'∧∃r O',R r O'∧∃v2 μ2 ow2,Ending.returned v=.returned v2∧Out w O μ ow vis r O' v2 w' μ2 ow2:=by
    intro s₀ a' w' μ' ow' hr₀ hok₀;obtain ⟨xs,vs,vw,bl₀,hrun,hrl,hvk₀,hvw,hok⟩:=run_results rs hts hr₀ hok₀;obtain ⟨bl,rep,hin₀⟩:=pick_rep hrl;have views:∀b∈bl,VOK cx ow' vw b:=fun b hb=>hvk₀ b (hin₀ b hb)
    have hr:=hr₀.up hvw;refine ⟨hr₀.dfr,_,hrun,?_⟩;generalize hse:({s₀ with vw:=vw}:St)=s' at hr hok
    have hvwe:vw=s'.vw:=by rw [←hse]
    rw [hvwe] at views;generalize pickRV vs=rv at rep hok;obtain ⟨r,O',hR,⟨honly,hnd,hm⟩,hre,hOe,hmix,hview⟩:=hok;refine ⟨r,O',hR,?_⟩;let m:=O.length;let nw:=(refsOf rv).filter fun id=>Nat.ble m id
    have hnwge:∀id∈nw,m≤id:=fun id hid=>ql5 (List.mem_filter.1 hid).2
    let μr:Nat→Option Loc:=fun j=>if j < m then μ' j else (nw[j - m]?).bind μ'
    let owr:Ow:=fun b=>match ow' b with
      | some (r,id)=>if id < m then some (r,id) else (idx nw id).map fun j=>(r,m+j)
      | none=>none
    have owr_none:∀b,ow' b=none→owr b=none:=fun b e=>by simp [owr,e]
    have owr_ne:∀b,owr b≠none→ow' b≠none:=fun b hb e=>hb (owr_none b e)
    have howr:∀b r id,ow' b=some (r,id)→id < m∨id∈nw→owr b=some (r,outNo m nw id):=by
      intro b r id e hid
      by_cases hlt:id < m
      · simp [owr,e,hlt,outNo]
      · have hmem:id∈nw:=hid.resolve_left hlt
        obtain ⟨j,hj⟩:=qmb.1 (idx_mem hmem);simp [owr,e,hlt,outNo,hj]
    have hμr:∀id l,(Nat.blt id m || (idx nw id).isSome)=true→μ' id=some l→μr (outNo m nw id)=some l:=by
      intro id l hp e
      by_cases hlt:id < m
      · simp [μr,outNo,hlt,e]
      · have hs:(idx nw id).isSome=true:=by
          have:Nat.blt id m=false:=by
            cases q:Nat.blt id m with
            | false=>rfl
            | true=>exact absurd (ql5 q) (by omega)
          rw [this] at hp;simpa using hp
        obtain ⟨j,hj⟩:=qmb.1 hs;have:=idx_spec hj;have e1:¬m+j < m:=by omega
        have e2:m+j - m=j:=by omega
        simp [μr,outNo,hlt,hj,e1,e2,this,e]
    refine ⟨_,μr,owr,rfl,?_⟩;have hlenO:O'.length=m+nw.length:=by
      rw [hOe,qlm,qls,ql7,Nat.min_eq_left hm]
    refine ⟨⟨bl,?_,fun b hb=> ?_⟩,fun j bk e=> ?_,hmix,fun id l e=> ?_,by omega,fun j hj=> ?_,fun b hb=>hr.owl b (owr_ne b hb),fun b hb=>hr.own b (owr_ne b hb),hr.frm.tabs⟩
    · rw [hre]
      let μ1:Nat→Option Loc:=fun id=>if (Nat.blt id m || (idx nw id).isSome)=true then μ' id else none
      have r1:Rep w' μ1 rv _ bl:=rep.only (p:=fun id=>Nat.blt id m || (idx nw id).isSome) (fun id l hp e=>by simp only [μ1];rw [if_pos hp];exact e) honly;refine r1.ren fun id l e=> ?_
      simp only [μ1] at e;split at e
      · rename_i hp
        exact hμr id l hp e
      · cases e
    · rcases hview with hv | hv
      · have:=views b hb
        rw [hv] at this;rcases this.1 with q | ⟨q,_⟩
        · exact ⟨owr_none b q,this.2⟩
        · cases q
      · rw [clean_nil rep hv.1] at hb;cases hb
    · -- a block that is handed back
      have src:∃id,s'.O[id]? =some bk∧(id < m∨id∈nw)∧outNo m nw id=j∨bk=.dead:=by
        rw [hOe] at e
        by_cases hj:j < m
        · rw [qlv (by rw [qls];omega),List.getElem?_take_of_lt hj] at e
          exact ⟨j,.inl ⟨e,.inl hj,by simp [outNo,hj]⟩⟩
        · have hlt:(s'.O.take O.length).length=m:=by rw [qls,Nat.min_eq_left hm]
          rw [qlr (by omega),hlt,List.getElem?_map] at e;cases q:nw[j - m]? with
          | none=>rw [q] at e;cases e
          | some id=>
            rw [q] at e;simp only [Option.map_some,Option.some.injEq] at e;have hmem:=qlb q;have hge:=hnwge id hmem;cases q2:s'.O[id]? with
            | none=>rw [qld,q2] at e;exact ⟨0,.inr e.symm⟩
            | some bk2=>
              rw [qld,q2] at e;simp only [Option.getD_some] at e;subst e;refine ⟨id,.inl ⟨q2,.inr hmem,?_⟩⟩;have hix:=idx_get hnd q;simp only [outNo,if_neg (Nat.not_lt.2 hge),nw,m] at hix⊢;rw [hix];show O.length+(j - O.length)=j;have:m=O.length:=rfl;omega
      obtain ⟨id,src⟩:=src;rcases src with ⟨e1,hin,hno⟩ | hdead
      · have hblk:=hr.blk id bk e1
        have hp:(Nat.blt id m || (idx nw id).isSome)=true:=by
          rcases hin with q | q
          · have:Nat.blt id m=true:=Nat.ble_eq_true_of_le q
            rw [this];rfl
          · rw [idx_mem q];simp
        have hbm:=hmix bk (qlb e);have key:∀xs k,k.nm=true→(s'.vw=true→k≠.shal∧k.nm=true)→RowOK cx w' μ' ow' s'.vw id xs k→RowOK cx w' μr owr false j xs k:=by
          intro xs k hk hvk ⟨l,q1,q2,q3⟩;have q1':=hμr id l hp q1;rw [hno] at q1';refine ⟨l,q1',q2,?_⟩;rcases q3 with q3 | ⟨q3,q4,bl2,q5,q6,q7⟩
          · exact .inl q3
          · refine .inr ⟨q3,by rw [howr _ _ _ q4 hin,hno],bl2,by rw [mu_ne_mix hk];rw [mu_ne_mix hk] at q5;exact q5,?_,q7⟩
            cases k with
            | flat | thin=>exact q6
            | deep=>exact ⟨q6.1,fun b hb=>by rw [howr _ _ _ (q6.2 b hb) hin,hno]⟩
            | shal=>
              intro b hb;have hvw:s'.vw=false:=by
                cases z:s'.vw with
                | false=>rfl
                | true=>exact absurd rfl (hvk z).1
              have hvok:=q6 b hb;rw [hvw] at hvok;rcases hvok.1 with z | ⟨z,_⟩
              · exact ⟨.inl (owr_none b z),hvok.2⟩
              · cases z
            | mix | part=>exact absurd hk (by decide)
        have hvk:∀k,bk.row=some (bk.row.map (·.1) |>.getD [],k)→s'.vw=true→k≠.shal∧k.nm=true:=by
          intro k hk hvw;rcases hview with q | q
          · rw [hvw] at q;cases q
          · have:=q.2 bk (qlb e)
            cases bk with
            | dead=>cases hk
            | hid j' n'=>cases hk
            | arr xs k'=>simp [Blk.kindIs,Blk.row] at this hk;rw [←hk];exact this
            | box x k'=>simp [Blk.kindIs,Blk.row] at this hk;rw [←hk];exact this
        cases bk with
        | dead=>trivial
        | hid j' n'=>simp [Blk.kindIs] at hbm
        | arr xs k=>exact key xs k (by simpa [Blk.kindIs] using hbm) (hvk k rfl) hblk
        | box x k=>exact key [x] k (by simpa [Blk.kindIs] using hbm) (hvk k rfl) hblk
      · subst hdead;trivial
    · have hlt:id < m:=by
        rcases qly id m with q | q
        · exact q
        · rw [hi.dom id q] at e;cases e
      have:=hr.mu id l e;simp [μr,hlt,this]
    · have h1:¬j < m:=by omega
      have h2:nw[j - m]? =none:=qlp (by omega);simp [μr,h1,h2]
  obtain ⟨μ1,ow1,hrel1⟩:=hweak cx _ w μ ow hi.dom hrel;refine awp_sound (cx:=cx) rfl hi.dom c hrel1 h fun e s' a' w' μ' ow' hr hq=> ?_
  cases e with
  | exit id=>exact hq.elim
  | normal=>
    obtain ⟨s2,hw2,hq2⟩:=hq;obtain ⟨μ2,ow2,hr2⟩:=hw2 cx _ w' μ' ow' hi.dom hr;exact hpost s2 a' w' μ2 ow2 hr2 hq2
  | ret=>
    obtain ⟨s2,hw2,hq2⟩:=hq;obtain ⟨μ2,ow2,hr2⟩:=hw2 cx _ w' μ' ow' hi.dom hr;exact hpost s2 a' w' μ2 ow2 hr2 hq2
theorem ConX.con {f:FuncId} {args:List V} {O:List Blk} {r:V} {O':List Blk} (h:ConX P f args O (isR r O')):Con P f args O r O':=
  ⟨h.1,fun w vals μ ow vis hi=>(h.2 w vals μ ow vis hi).mono fun _ _ ⟨_,_,⟨e1,e2⟩,q⟩=>by grind⟩
end
end Go.Vm
