/- What functions compute. No condition. -/
import Derived.Test.YtmbbjhopngejaaaGreatX13
import Derived.Test.YtmbbjhopngejaaaGreatUmI
set_option linter.all false
open Nat renaming mul_one → Za, min_def → Zb, min → Zj
open List renaming pairwise_cons → Zc, foldl_append → Zd, take_append_of_le_length → Zg, getElem?_cons_zero → Zi, take_append_drop → Zl, getElem?_eq_none → Zm, getElem?_toArray → Zn, set_set → Zo
open Array renaming getElem?_eq_none → Ze
open Go.Region renaming wanted → Zf
open Go.World renaming cell? → Zh
open Go.Vm.V renaming cells → Zk
namespace Go.Proofs.YtmbbjhopngejaaaGreat
open Go Go.Vm Tryz
set_option maxHeartbeats 8000000
theorem d4c:∀a b:List UInt8,Op.bytesLess a b=true∨a=b∨Op.bytesLess b a=true
  | [],[]=>.inr (.inl rfl)
  | [],_::_=>.inl rfl
  | _::_,[]=>.inr (.inr rfl)
  | x ::a,y::b=>by
    simp only [Op.bytesLess,Bool.or_eq_true,Bool.and_eq_true,decide_eq_true_eq,beq_iff_eq]
    by_cases h:x < y
    · exact .inl (.inl h)
    · by_cases h2:y < x
      · exact .inr (.inr (.inl h2))
      · have he:x=y:=by
          apply UInt8.toNat_inj.1;have h1:¬x.toNat < y.toNat:=h;have h3:¬y.toNat < x.toNat:=h2;omega
        subst he;rcases d4c a b with q | q | q
        · exact .inl (.inr ⟨rfl,q⟩)
        · exact .inr (.inl (by rw [q]))
        · exact .inr (.inr (.inr ⟨rfl,q⟩))
theorem d1h (a:ByteArray):a.toList=a.data.toList:=ByteArray.toList_eq a
theorem g33 (a b:ByteArray):b2v a b=true∨a=b∨b2v b a=true:=by
  unfold b2v;rw [d1h,d1h];rcases d4c a.data.toList b.data.toList with q | q | q
  · exact .inl q
  · exact .inr (.inl (ByteArray.ext (Array.ext' q)))
  · exact .inr (.inr q)
theorem f0p (zs:List Int):(b3s zs).Perm zs:=List.mergeSort_perm ..
theorem f3z (zs:List Int):(b3s zs).Pairwise (·≤·):=by
  refine (List.pairwise_mergeSort (le:=fun x y=>decide (x≤y)) (fun a b c h k=> ?_) (fun a b=> ?_) zs).imp fun h=>by simpa using h
  · simp only [decide_eq_true_eq] at h k⊢;omega
  · simp only [Bool.or_eq_true,decide_eq_true_eq];omega
def c3p (s:ByteArray):List ByteArray→Nat
  | []=>0
  | x::l=>if b2v x s=true then c3p s l+1 else 0
def b6i (l:List ByteArray) (s:ByteArray):List ByteArray:=l.take (c3p s l)++s::l.drop (c3p s l)
theorem d3c (s:ByteArray):∀l:List ByteArray,c3p s l≤l.length
  | []=>qly _
  | x::l=>by
    have:=d3c s l;rw [c3p,qme];split<;>omega
section
variable {s x:ByteArray} {l:List ByteArray} {k:Nat} (h:l[k]? =some x)
include h
theorem g4a (hx:b2v x s=true):k+c3p s (l.drop k)=(k+1)+c3p s (l.drop (k+1)):=by
  rw [b1p h,c3p,if_pos hx];omega
theorem d4p (hx:b2v x s=false):c3p s (l.drop k)=0:=by
  rw [b1p h,c3p,if_neg (by rw [hx];decide)]
end
theorem d8y {s:ByteArray} {l:List ByteArray} {k:Nat} (h:l.length≤k):c3p s (l.drop k)=0:=by
  rw [ql4 h,c3p]
theorem d9b {s x:ByteArray}:∀{l:List ByteArray} {k:Nat},l[k]? =some x→b2v x s=false→c3p s l≤k
  | y::l,0,h,hx=>by
    simp only [Zi,Option.some.injEq] at h;subst h;rw [c3p,if_neg (by rw [hx];decide)];omega
  | y::l,k+1,h,hx=>by
    have:=d9b (l:=l) (k:=k) (by simpa using h) hx;rw [c3p];split<;>omega
theorem d5j {s x:ByteArray}:∀{l:List ByteArray} {k:Nat},l.Pairwise (fun a b=>b2v a b=true)→l[k]? =some x→b2v x s=true→k < c3p s l
  | y::l,0,_,h,hx=>by
    simp only [Zi,Option.some.injEq] at h;subst h;rw [c3p,if_pos hx];omega
  | y::l,k+1,hp,h,hx=>by
    have h':l[k]? =some x:=by simpa using h
    have hp':=Zc.1 hp;have:=d5j (l:=l) (k:=k) hp'.2 h' hx;rw [c3p,if_pos (b8n (hp'.1 x (qlb h')) hx)];omega
theorem d9h (l:List ByteArray) (s:ByteArray):(b6i l s).length=l.length+1:=by
  have:=d3c s l;rw [b6i,qln,qme,qlj,qmj];omega
theorem d2t {l:List ByteArray} {s t:ByteArray}:t∈b6i l s↔t=s∨t∈l:=by
  have e:t∈l↔t∈l.take (c3p s l)∨t∈l.drop (c3p s l):=by rw [←qll,Zl]
  rw [b6i,qll,qlv,e];constructor
  · rintro (h | h | h)
    · exact .inr (.inl h)
    · exact .inl h
    · exact .inr (.inr h)
  · rintro (h | h | h)
    · exact .inr (.inl h)
    · exact .inl h
    · exact .inr (.inr h)
theorem f4p (x:ByteArray) (l:List ByteArray) (s:ByteArray):b6i (x::l) s=if b2v x s=true then x::b6i l s else s::x::l:=by
  rw [b6i,c3p];split
  · rw [List.take_succ_cons,List.drop_succ_cons];rfl
  · rfl
theorem d9l {s:ByteArray}:∀{l:List ByteArray},l.Pairwise (fun a b=>b2v a b=true)→s ∉ l→(b6i l s).Pairwise (fun a b=>b2v a b=true)
  | [],_,_=>List.pairwise_singleton ..
  | x ::l,h,hs=>by
    have hp:=Zc.1 h;rw [f4p];split
    · rename_i hx
      refine Zc.2 ⟨fun y hy=> ?_,d9l hp.2 fun q=>hs (qlq _ q)⟩;rcases d2t.1 hy with rfl | q
      · exact hx
      · exact hp.1 y q
    · rename_i hx
      have hxs:b2v s x=true:=by
        rcases g33 s x with q | q | q
        · exact q
        · exact absurd (q ▸ qlp ..) hs
        · exact absurd q hx
      refine Zc.2 ⟨fun y hy=> ?_,h⟩;rcases qlv.1 hy with rfl | q
      · exact hxs
      · exact b8n hxs (hp.1 y q)
def b3l (l N:List ByteArray):List ByteArray:=N.foldl b6i l
theorem d7x (l N:List ByteArray) (s:ByteArray):b3l l (N++[s])=b6i (b3l l N) s:=by rw [b3l,Zd];rfl
theorem c5v:∀(N l:List ByteArray),(b3l l N).length=l.length+N.length
  | [],l=>rfl
  | s::N,l=>by
    show (b3l (b6i l s) N).length=_;rw [c5v N,d9h,qme];omega
theorem b4t {t:ByteArray}:∀{N l:List ByteArray},t∈b3l l N↔t∈l∨t∈N
  | [],l=>by rw [show b3l l []=l from rfl];simp
  | s ::N,l=>by
    rw [show b3l l (s::N)=b3l (b6i l s) N from rfl,b4t (N:=N),d2t,qlv];constructor
    · rintro ((h | h) | h)
      · exact .inr (.inl h)
      · exact .inl h
      · exact .inr (.inr h)
    · rintro (h | h | h)
      · exact .inl (.inr h)
      · exact .inl (.inl h)
      · exact .inr h
theorem c6m:∀{N l:List ByteArray},l.Pairwise (fun a b=>b2v a b=true)→N.Nodup→(∀s∈N,s ∉ l)→(b3l l N).Pairwise (fun a b=>b2v a b=true)
  | [],l,h,_,_=>h
  | s::N,l,h,hn,hd=>by
    have hn':=List.nodup_cons.1 hn;refine c6m (N:=N) (l:=b6i l s) (d9l h (hd s (qlp ..))) hn'.2 fun t ht q=> ?_
    rcases d2t.1 q with e | q
    · exact hn'.1 (e ▸ ht)
    · exact hd t (qlq _ ht) q
def b4i (k:Nat) (ins:List TI) (N:List ByteArray):List TI:=match ins[k]? with
  | some x=>ins.set k (x.1,x.2.1,x.2.2.1,b3l x.2.2.2 N)
  | none=>ins
theorem b84 {k:Nat} {ins:List TI} {x:TI} (h:ins[k]? =some x) (N:List ByteArray):b4i k ins N=ins.set k (x.1,x.2.1,x.2.2.1,b3l x.2.2.2 N):=by rw [b4i,h]
theorem c1u (k:Nat) (ins:List TI) (N:List ByteArray):(b4i k ins N).length=ins.length:=by
  rw [b4i];split
  · rw [qlr]
  · rfl
theorem c5j {k:Nat} {ins:List TI} {x:TI} (h:ins[k]? =some x):b4i k ins []=ins:=by
  rw [b84 h];apply List.ext_getElem?;intro i
  by_cases e:k=i
  · subst e;rw [qlf (qlc.1 h).1,h];rfl
  · rw [qld e]
section
variable {k:Nat} {ins:List TI} {x:TI} (h:ins[k]? =some x) (N:List ByteArray)
include h N
theorem c5l:(b4i k ins N)[k]? =some (x.1,x.2.1,x.2.2.1,b3l x.2.2.2 N):=by
  rw [b84 h];exact qlf (qlc.1 h).1
theorem f0r (s:ByteArray):(b4i k ins N).set k (x.1,x.2.1,x.2.2.1,b6i (b3l x.2.2.2 N) s)=b4i k ins (N++[s]):=by
  rw [b84 h,b84 h,Zo,d7x]
end
def b6d (fl:List TA) (L:List Int):List TA:=L.foldl (fun f i=>match f[i.toNat]? with | some a=>f.set i.toNat (b4m a) | none=>f) fl
theorem d1f (fl:List TA) (L:List Int) {m:Nat} {a:TA} (h:(b6d fl L)[m]? =some a):b6d fl (L++[(m:Int)])=(b6d fl L).set m (b4m a):=by
  rw [b6d,Zd];show (match (b6d fl L)[((m:Int)).toNat]? with | some a=>(b6d fl L).set ((m:Int)).toNat (b4m a) | none=>b6d fl L)=_
  rw [qlh,h]
theorem d0q (fl:List TA) (order:List Int):∀m,m≤fl.length→b6d fl (b7k order m)=b20 fl order m++fl.drop m
  | 0,_=>rfl
  | m + 1,h=>by
    have ih:=d0q fl order m (by omega);have ha:fl[m]? =some fl[m]:=qla (by omega);rw [d22];split
    · rename_i ho
      have hg:(b6d fl (b7k order m))[m]? =some fl[m]:=by rw [ih];exact c58 ha
      rw [d1f _ _ hg,ih,d11 ha ho]
    · rename_i ho
      rw [qml,ih,d58 ha ho]
theorem c4v (fl:List TA):∀L:List Int,(b6d fl L).length=fl.length:=by
  intro L
  induction L generalizing fl with
  | nil=>rfl
  | cons i L ih=>
    show (b6d (match fl[i.toNat]? with | some a=>fl.set i.toNat (b4m a) | none=>fl) L).length=_
    rw [ih];split
    · rw [qlr]
    · rfl
theorem c1p {order:List Int}:∀{m j:Nat} {i:Int},(b7k order m)[j]? =some i→∃q:Nat,i=(q:Int)∧q < m∧(q:Int)∈order∧(b7k order m).take j=b7k order q
  | 0,j,i,h=>by simp [b7k] at h
  | m + 1,j,i,h=>by
    rw [d22] at h⊢
    by_cases hj:j < (b7k order m).length
    · rw [qls hj] at h
      obtain ⟨q,h1,h2,h3,h4⟩:=c1p h;exact ⟨q,h1,by omega,h3,by rw [Zg (by omega)];exact h4⟩
    · rw [qli (by omega)] at h
      by_cases ho:(m:Int)∈order
      · rw [if_pos ho] at h
        have h0:j - (b7k order m).length=0:=by
          rcases ql8 (j - (b7k order m).length) with q | q
          · exact q
          · rw [Zm (by simp only [List.length_singleton];omega)] at h;cases h
        rw [h0,qm2,Option.some.injEq] at h;refine ⟨m,h.symm,by omega,ho,?_⟩;rw [Zg (by omega),ql3 (by omega)]
      · rw [if_neg ho] at h;simp at h
theorem g5v {order:List Int} {m:Nat} (hn:order.Nodup) (hv:∀i∈order,∃k:Nat,i=(k:Int)∧k < m):b3s order=b7k order m:=by
  refine List.Perm.eq_of_pairwise (le:=(·≤·)) (fun a b _ _ h1 h2=>by omega) ?_ ?_ ((f0p order).trans (g4z hn hv).symm)
  · exact f3z order
  · rw [b7k]
    refine List.Pairwise.filter _ ?_;refine List.Pairwise.map _ (fun a b h=> ?_) List.pairwise_lt_range;exact Int.ofNat_le.2 (Nat.le_of_lt h)
theorem c0d {P:Program} (w:World) {ops:Array Oper} {rest:List Oper} {o:Oper} {a:Act} {Q:Exit→Act→World→Prop} (hgd:o.guard=none) (d s:Operand) (t t':TypeId)
    (ho:o.op=.call {callee:=.builtin .copy,args:=#[d,s],argTypes:=#[t,t']}) (v u:Value) (hd:a.eval d=v) (hs:a.eval s=u) {v':Value} {w':World}
    (hr:(Builtin.copy_ #[t,t'] o.type #[v,u]).run P w=.ok v' w') (h:wpList P ops Q rest (a.put o.dst v') w'):wpList P ops Q (o::rest) a w:=
  wpList_plain hgd fun _ hK=>by
    unfold Oper.wp execOp;simp only [aQ,fQ,ho,resolve,invoke,builtin,Sem.run_bind,Sem.run_pure,Result.andThen_ok,List.map_toArray,List.map_cons,List.map_nil,hd,hs,hr];exact hK _ _ h
theorem c1g {P:Program} {ops:Array Oper} {o:Oper} {a:Act} {w:World} {K:Act→World→Prop} {Q:Exit→Act→World→Prop} {E:Prop}
    (hg:o.guard=none) (d x:Operand) (dT sT:TypeId) (hop:o.op=Op.call {callee:=Callee.builtin Builtin.copy,args:=#[d,x],argTypes:=#[dT,sT]})
    (v u:Value) (hd:a.eval d=v) (hx:a.eval x=u) {v':Value} {w':World} (hr:(Builtin.copy_ #[dT,sT] o.type #[v,u]).run P w=.ok v' w') (hK:K (a.put o.dst v') w') :
    if Zf o (yielded ops a.tmps)=true then Oper.wp P o a w K Q else E:=by
  have hw:Zf o (yielded ops a.tmps)=true:=by simp [Zf,hg]
  rw [if_pos hw];unfold Oper.wp;simp [execOp,hop,resolve,invoke,builtin,hd,hx,hr,Result.andThen];exact hK
set_option maxRecDepth 100000 in
theorem f1d (own:Nat→Prop) (b off n cap i vb voff vcap:Nat) (c cv:Array Value) (t tv:TypeId) (cs vs:List Value) (w:World)
    (hb:w.heap[b]? =some (.cells c t (0,0))) (hv:w.heap[vb]? =some (.cells cv tv (0,0))) (hvb:vb≠b) (hn:n+1≤cap) (hfit:off+cap≤c.size) (hcs:cs.length=n) (hvs:vs.length=1)
    (hc:∀(j:Nat) (x:Value),cs[j]? =some x→c[off+j]? =some x) (hvc:∀(j:Nat) (x:Value),vs[j]? =some x→cv[voff+j]? =some x) (h1c:∀v∈cs,v.oneCell'=true) (h1v:∀v∈vs,v.oneCell'=true) (hi:i < n) (hn20:n≤1048576) (ho:own b) :
    Calls prog 144 #[.slice (some ⟨b,off,none⟩) n cap,.int .i64 i,.slice (some ⟨vb,voff,none⟩) 1 vcap] w (LeftRow w own (n+1) 1 (cs.take (i)++(vs++cs.drop (i)))):=by
  have hp:Program.cellsOf prog 9=1:=by kernel_rfl
  have hbw:b < w.heap.size:=by
    rcases qmk b w.heap.size with q | q
    · exact q
    · rw [Ze q] at hb;cases hb
  have hvne:cv.size≠0:=by
    have:=hvc 0 vs[0] (qla (by omega));intro q;rw [Ze (by omega)] at this;cases this
  have hov:∀(lb cb:Nat),(callFunc 176 #[.slice (some ⟨vb,voff,none⟩) 1 vcap,.slice (some ⟨b,off+(i+1),none⟩) lb cb]).run prog w=.ok (.value (.bool false)) w:=fun lb cb=>by
    rw [run_callFunc_extern func176 (by kernel_rfl) (by kernel_rfl) (by kernel_rfl) (e:=Extern.SlicesOverlaps.overlaps #[48,48] #[4]) (by kernel_rfl),
      Lib.run_overlaps_apart w 48 4 9 underlying48 1 Tryz.sizeOf9 ⟨vb,voff,none⟩ ⟨b,off+(i+1),none⟩ 1 vcap lb cb hvb tv t cv.size c.size (by simp [World.shape?,hv]) (by simp [World.shape?,hb]) (by omega) (by simp [World.frozen?,hv]) (by simp [World.frozen?,hv])]
    rfl
  have hdl:(cs.drop (i)).length=(n - i):=by rw [qmj,hcs]
  obtain ⟨c1,hc1⟩:∃c1:Array Value,c1=(c.toList.take (off+(i+1))++cs.drop (i)++c.toList.drop (off+(i+1)+(cs.drop (i)).length)).toArray:=⟨_,rfl⟩;have hcp1:∀(W:World),(∀x,W.heap[x]? =w.heap[x]?)→∀ty dc sc,(Builtin.copy_ #[48,48] ty #[.slice (some ⟨b,off+(i+1),none⟩) (n - i) dc,.slice (some ⟨b,off+i,none⟩) (n+1 - i) sc]).run prog W=.ok (goInt ((n - i:Nat):Int)) (W.setRow b c1):=fun W hW ty dc sc=>by
    have h:=c0z (P:=prog) (w:=W) (tS:=48) (ty:=ty) (e:=9) (g:=b) (o:=off+(i+1)) (dLen:=n - i) (dCap:=dc) (a:=⟨b,off+i,none⟩) (sLen:=n+1 - i) (sCap:=sc) (cur:=c) (t:=t) (cs:=cs.drop (i)) underlying48 (by rw [hp];decide) (by rw [hW];exact hb)
      (by rw [hdl,hp,show Zj (n+1 - i) (n - i)=n - i by simp only [Zb];split<;>omega];exact (Za _).symm)
      (fun j v hj=>by
        rw [qmt] at hj;simp only [Zh,hW,hb,Addr.add_lit];have:=hc _ _ hj
        rwa [←Nat.add_assoc] at this)
      (by rw [hdl];omega) (fun v hv=>h1c v (qmg hv))
    rw [show Zj (n+1 - i) (n - i)=n - i by simp only [Zb];split<;>omega] at h
    rw [hc1];exact h
  have hc1s:c1.size=c.size:=by rw [hc1];exact c1x (by rw [hdl];omega)
  obtain ⟨c2,hc2⟩:∃c2:Array Value,c2=(c1.toList.take (off+i)++vs++c1.toList.drop (off+i+vs.length)).toArray:=⟨_,rfl⟩;have hcp2:∀(W:World),W.heap[b]? =some (.cells c1 t (0,0))→W.heap[vb]? =some (.cells cv tv (0,0))→∀ty dc,(Builtin.copy_ #[48,48] ty #[.slice (some ⟨b,off+i,none⟩) (n+1 - i) dc,.slice (some ⟨vb,voff,none⟩) 1 vcap]).run prog W=.ok (goInt ((1:Nat):Int)) (W.setRow b c2):=fun W hW1 hW2 ty dc=>by
    have h:=c0z (P:=prog) (w:=W) (tS:=48) (ty:=ty) (e:=9) (g:=b) (o:=off+i) (dLen:=n+1 - i) (dCap:=dc) (a:=⟨vb,voff,none⟩) (sLen:=1) (sCap:=vcap) (cur:=c1) (t:=t) (cs:=vs) underlying48 (by rw [hp];decide) hW1
      (by rw [hvs,hp,show Zj 1 (n+1 - i)=1 by simp only [Zb];split<;>omega])
      (fun j v hj=>by
        simp only [Zh,hW2,Addr.add_lit];exact hvc _ _ hj)
      (by rw [hvs,hc1s];omega) h1v
    rw [show Zj 1 (n+1 - i)=1 by simp only [Zb];split<;>omega] at h
    rw [hc2];exact h
  have hc2s:c2.size=c.size:=by rw [hc2,c1x (by rw [hvs,hc1s];omega),hc1s]
  have hfin:∀(j:Nat) (x:Value),(cs.take (i)++(vs++cs.drop (i)))[j]? =some x→c2[off+j]? =some x:=by
    intro j x hj;have e1:=c45 (c:=c) (cs:=cs.drop (i)) (o:=off+(i+1)) (j:=off+j) (by rw [hdl];omega);have e2:=c45 (c:=c1) (cs:=vs) (o:=off+i) (j:=off+j) (by rw [hvs,hc1s];omega);rw [←hc1] at e1;rw [←hc2] at e2;have ht:(cs.take (i)).length=i:=by rw [qlj];omega
    by_cases q1:j < i
    · rw [qls (by omega),List.getElem?_take_of_lt q1] at hj
      rw [e2,if_neg (by omega),e1,if_neg (by omega)];exact hc _ _ hj
    · rw [qli (by omega),ht] at hj
      by_cases q2:j < i+1
      · rw [qls (by omega)] at hj
        rw [e2,if_pos (by omega),show off+j - (off+i)=j - i by omega];exact hj
      · rw [qli (by omega),hvs] at hj
        have hlt:j - i - 1 < (cs.drop (i)).length:=by
          rcases qmk (j - i - 1) (cs.drop (i)).length with q | q
          · exact q
          · rw [Zm q] at hj;cases hj
        rw [e2,if_neg (by omega),e1,if_pos (by omega),show off+j - (off+(i+1))=j - i - 1 by omega];exact hj
  clear hc1 hc2;have hw1:IntKind.i64.wrap ((i:Int)+1)=(i:Int)+1:=by rw [IntKind.wrap_i64];omega
  have hw2:IntKind.i64.wrap ((n:Int)+1)=(n:Int)+1:=by rw [IntKind.wrap_i64];omega
  have hz2:¬((i:Int)=(n:Int)):=by omega
  have hb1:(0:Int)≤(i:Int)+1:=by omega
  have hin:i≤n:=by omega
  have htn:((i:Int)+1).toNat=i+1:=by omega
  have hb2:¬(cap=i+1):=by omega
  have hb3:(i:Int)≤(n:Int)+1:=by omega
  have hb4:¬(cap=i):=by omega
  have hb5:¬((cap:Int) < (n:Int)+1):=by omega
  have mixed:prog.follows Departure.mixedOrders=true:=by kernel_rfl
  go_enter func144,ntmps144
  go_wp2_with (simp only [hov])
  have key:∀(ops:Array Oper) (o:Oper) (a:Act) (K:Act→World→Prop) (Q:Exit→Act→World→Prop) (E:Prop),o.guard=none→o.op=Op.call {callee:=Callee.builtin Builtin.copy,args:=#[.tmp 73,.tmp 76],argTypes:=#[48,48]}→(a.eval (.tmp 73)=.slice (some ⟨b,off+(i+1),none⟩) (n - i) (cap - (i+1)))→(a.eval (.tmp 76)=.slice (some ⟨b,off+i,none⟩) (n+1 - i) (cap - i))→K (a.put o.dst (goInt ((n - i:Nat):Int))) (w.drew.setRow b c1)→(if Zf o (yielded ops a.tmps)=true then Oper.wp prog o a w.drew K Q else E):=fun ops o a K Q E h1 h2 h3 h4 h5=>c1g h1 _ _ 48 48 h2 _ _ h3 h4 (hcp1 w.drew (fun _=>rfl) _ _ _) h5
  go_region_law_o (go_loud (refine key _ _ _ _ _ _ rfl rfl (by simp [Act.eval,Act.put]) (by simp [Act.eval,Act.put]) ?_))
  clear key;have key:∀(ops:Array Oper) (rest:List Oper) (o:Oper) (a:Act) (Q:Exit→Act→World→Prop),o.guard=none→o.op=.call {callee:=.builtin .copy,args:=#[.tmp 80,.tmp 81],argTypes:=#[48,48]}→a.eval (.tmp 80)=.slice (some ⟨b,off+i,none⟩) (n+1 - i) (cap - i)→a.eval (.tmp 81)=.slice (some ⟨vb,voff,none⟩) 1 vcap→wpList prog ops Q rest (a.put o.dst (goInt ((1:Nat):Int))) ((w.drew.setRow b c1).setRow b c2)→wpList prog ops Q (o::rest) a (w.drew.setRow b c1):=fun ops rest o a Q h1 h2 h3 h4 h5=>c0d _ h1 _ _ 48 48 h2 _ _ h3 h4 (hcp2 _ (setRow_heap w.drew b _ c1 t (0,0) hb) (by rw [setRow_other _ _ _ _ hvb];exact hv) _ _) h5
  go_wp2_with (refine key _ _ _ _ _ rfl rfl rfl rfl ?_)
  go_ret
  exact ⟨⟨b,off,cap,c2,t,rfl,hn,by rw [hc2s,Za];exact hfit,.inl ho,setRow_heap _ b c1 c2 t (0,0) (setRow_heap w.drew b _ c1 t (0,0) hb),hfin⟩,by simp,fun x hx hno=>by
    have hne:x≠b:=fun e=>hno (e ▸ ho)
    rw [setRow_other _ _ _ _ hne,setRow_other _ _ _ _ hne];rfl,rfl,rfl,rfl,fun x _=>by rw [b3o,b3o];rfl⟩
theorem b8s {P:Program} (w:World) {ops:Array Oper} {rest:List Oper} {o:Oper} {a:Act} {Q:Exit→Act→World→Prop} (hgd:o.guard=none) (s x:Operand) (t tn:TypeId)
    (ho:o.op=.call {callee:=.builtin .append,args:=#[s,x],argTypes:=#[t,tn]}) (vs vx:Value) (hs:a.eval s=vs) (hx:a.eval x=vx)
    (v':Value) (w':World) (hr:(Builtin.append_ #[t,tn] o.type #[vs,vx]).run P w=.ok v' w') (h:wpList P ops Q rest (a.put o.dst v') w'):wpList P ops Q (o::rest) a w:=
  wpList_plain hgd fun _ hK=>by
    unfold Oper.wp execOp;simp only [aQ,fQ,ho,resolve,invoke,builtin,Sem.run_bind,Sem.run_pure,Result.andThen_ok,List.map_toArray,List.map_cons,List.map_nil,hs,hx,hr];exact hK _ _ h
theorem c1o {P:Program} {w:World} {b off n cap sz:Nat} {c:Array Value} {t:TypeId} {cs:List Value} (hb:w.heap[b]? =some (.cells c t (0,0))) (hl:cs.length=n * sz) (hc:∀(j:Nat) (x:Value),cs[j]? =some x→c[off+j]? =some x):(Builtin.firstCells sz n (.slice (some ⟨b,off,none⟩) n cap)).run P w=.ok cs.toArray w:=
  run_firstCells_some (P:=P) w sz n ⟨b,off,none⟩ n cap cs hl (by
    intro j _ hj;simp only [Zh,Addr.add_lit,hb];exact hc _ _ hj)
set_option maxRecDepth 100000 in
theorem d8l (own:Nat→Prop) (q:Option Addr) (n cap vb voff vcap:Nat) (c' cv:Array Value) (t' tv:TypeId) (cs vs:List Value) (w:World)
    (hq:(n=0∧cap=0∧cs=[])∨∃b off c t,q=some ⟨b,off,none⟩∧own b∧w.heap[b]? =some (.cells c t (0,0))∧n≤cap∧off+cap≤c.size∧(∀(j:Nat) (x:Value),cs[j]? =some x→c[off+j]? =some x))
    (hv:w.heap[vb]? =some (.cells cv tv (0,0))) (hcs:cs.length=n) (hvs:vs.length=1)
    (hvc:∀(j:Nat) (x:Value),vs[j]? =some x→cv[voff+j]? =some x) (h1c:∀v∈cs,v.oneCell'=true) (h1v:∀v∈vs,v.oneCell'=true) (hn20:n≤1048576) :
    Calls prog 144 #[.slice q n cap,.int .i64 n,.slice (some ⟨vb,voff,none⟩) 1 vcap] w (LeftRow w own (n+1) 1 (cs++vs)):=by
  have hp:Program.cellsOf prog 9=1:=by kernel_rfl
  have hby:Program.bytesOf prog 9≤1000:=by rw [show Program.bytesOf prog 9=16 by kernel_rfl];decide
  obtain ⟨z,hz⟩:∃z,Program.zeroOf prog 9=some z:=qmi.1 (by kernel_rfl);have hsrc:∀W:World,W.heap=w.heap→(Builtin.firstCells (Program.cellsOf prog 9) 1 (.slice (some ⟨vb,voff,none⟩) 1 vcap)).run prog W=.ok vs.toArray W:=fun W hW=>c1o (by rw [hW];exact hv) (by rw [hp];exact hvs) hvc
  have hrun:∃v' w',(Builtin.append_ #[48,48] 48 #[.slice q n cap,.slice (some ⟨vb,voff,none⟩) 1 vcap]).run prog w=.ok v' w'∧LeftRow w own (n+1) 1 (cs++vs) (.returned v') w':=by
    by_cases hroom:n+1≤cap
    · rcases hq with ⟨h0,h1,_⟩ | ⟨b,off,c,t,rfl,ho,hb,hn,hfit,hc⟩
      · omega
      · have hfc:off+n+vs.length≤c.size:=by rw [hvs];omega
        refine ⟨_,_,c43 (w:=w) (t:=48) (e:=9) underlying48 (by rw [hp];decide) hb ⟨_,_,rfl⟩ (hsrc w rfl) h1v hroom (by rw [hp,Za];exact hfc),?_⟩;rw [hp];simp only [Za];refine ⟨⟨b,off,cap,_,t,rfl,hroom,by rw [c1x hfc,Za];exact hfit,.inl ho,setRow_heap _ _ _ _ _ _ hb,fun j x hj=> ?_⟩,by simp,fun x hx hno=>setRow_other _ _ _ _ (fun e=>hno (by rw [e];exact ho)),rfl,rfl,rfl,fun x _=>b3o _ _ _ x⟩;rw [c45 hfc]
        by_cases q1:j < n
        · rw [if_neg (by omega)]
          rw [qls (by omega)] at hj;exact hc _ _ hj
        · rw [qli (by omega),hcs] at hj
          have hlt:=(qlc.1 hj).1;rw [if_pos (by omega),show off+j - (off+n)=j - n by omega];exact hj
    · have hfo:(Builtin.firstCells (Program.cellsOf prog 9) n (.slice q n cap)).run prog w.drew=.ok cs.toArray w.drew:=by
        rcases hq with ⟨h0,h1,h2⟩ | ⟨b,off,c,t,rfl,ho,hb,hn,hfit,hc⟩
        · subst h0;subst h2
          cases q with
          | none=>exact run_firstCells_none (P:=prog) w.drew _ 0 0 cap
          | some ad=>exact run_firstCells_some (P:=prog) w.drew _ 0 ad 0 cap [] (by simp) (by intro j v hj;simp at hj)
        · exact c1o (w:=w.drew) hb (by rw [hp,Za];exact hcs) hc
      obtain ⟨cap',hc1,hc2⟩:=c3r (P:=prog) (w:=w) (t:=48) (e:=9) (ty:=48) (m:=1) underlying48 (by rw [hp];decide) hz ⟨_,_,rfl⟩ hfo (hsrc w.drew rfl) (by omega) (by omega) (ql7 (Nat.mul_le_mul (show n+1≤1048577 by omega) hby) (by decide));refine ⟨_,_,hc2,?_⟩;have hzc:z.cells.size=1:=by
        have:=hz;have key:(Program.zeroOf prog 9).map (fun z=>z.cells.size)=some 1:=by kernel_rfl
        rw [hz] at key;simpa using key
      have hls:(cs++vs).length=(n+1):=by rw [qln];omega
      refine ⟨⟨w.heap.size,0,cap',(cs++vs++(Builtin.zeroCells z.cells (cap' - (n+1))).toList).toArray,9,rfl,hc1,?_,.inr (qly _),?_,fun j x hj=> ?_⟩,by simp,fun x hx _=> ?_,rfl,rfl,rfl,fun x hx=> ?_⟩
      · simp only [aQ,fQ,List.length_append,List.size_toArray,Builtin.zeroCells]
        simp [hzc];omega
      · exact c0q w.drew _
      · rw [Nat.zero_add,Zn,qls (by rw [hls];have:=(qlc.1 hj).1;omega)]
        exact hj
      · exact (Ext.alloc w.drew _ _).old x hx
      · exact (Ext.alloc w.drew _ _).ice x hx
  obtain ⟨v',w',hr,hleft⟩:=hrun;have hz2:((1:Int)=0)=False:=by simp
  have mixed:prog.follows Departure.mixedOrders=true:=by kernel_rfl
  have key:∀(ops:Array Oper) (rest:List Oper) (o:Oper) (a:Act) (Q:Exit→Act→World→Prop),o.guard=none→o.op=.call {callee:=.builtin .append,args:=#[.tmp 23,.tmp 24],argTypes:=#[48,48]}→o.type=48→a.eval (.tmp 23)=.slice q n cap→a.eval (.tmp 24)=.slice (some ⟨vb,voff,none⟩) 1 vcap→wpList prog ops Q rest (a.put o.dst v') w'→wpList prog ops Q (o::rest) a w:=fun ops rest o a Q h1 h2 ht h3 h4 h5=>b8s _ h1 _ _ 48 48 h2 _ _ h3 h4 _ _ (by rw [ht];exact hr) h5
  have hn:n≤cap∧(q=none→n=0):=by
    rcases hq with ⟨h0,_⟩ | ⟨b,off,c,t,rfl,_,_,hn,_⟩
    · omega
    · exact ⟨hn,fun e=>by cases e⟩
  clear hq hr hsrc;obtain ⟨hn,hq0⟩:=hn
  go_enter func144,ntmps144
  cases q with
  | none=>
    have h0:=hq0 rfl;subst h0
    go_wp2_with (at_builtin;refine key _ _ _ _ _ rfl rfl rfl rfl rfl ?_)
    go_ret
    exact hleft
  | some ad=>
    obtain ⟨ab,ao,asp⟩:=ad;clear hq0
    go_wp2_with (at_builtin;refine key _ _ _ _ _ rfl rfl rfl rfl rfl ?_)
    all_goals (go_ret;exact hleft)
set_option maxRecDepth 100000 in
theorem g3l (own:Nat→Prop) (b off n cap i vb voff vcap:Nat) (c cv:Array Value) (t tv:TypeId) (cs vs:List Value) (w:World)
    (hb:w.heap[b]? =some (.cells c t (0,0))) (hv:w.heap[vb]? =some (.cells cv tv (0,0))) (hn:n≤cap) (hroom:cap < n+1) (hcs:cs.length=n) (hvs:vs.length=1)
    (hc:∀(j:Nat) (x:Value),cs[j]? =some x→c[off+j]? =some x) (hvc:∀(j:Nat) (x:Value),vs[j]? =some x→cv[voff+j]? =some x) (h1c:∀v∈cs,v.oneCell'=true) (h1v:∀v∈vs,v.oneCell'=true) (hi:i < n) (hn20:n≤1048576) :
    Calls prog 144 #[.slice (some ⟨b,off,none⟩) n cap,.int .i64 i,.slice (some ⟨vb,voff,none⟩) 1 vcap] w (LeftRow w own (n+1) 1 (cs.take (i)++(vs++cs.drop (i)))):=by
  have hp:Program.cellsOf prog 9=1:=by kernel_rfl
  have hby:Program.bytesOf prog 9≤1000:=by rw [show Program.bytesOf prog 9=16 by kernel_rfl];decide
  obtain ⟨z,hz⟩:∃z,Program.zeroOf prog 9=some z:=qmi.1 (by kernel_rfl);have hzc:z.cells.size=1:=by
    have key:(Program.zeroOf prog 9).map (fun z=>z.cells.size)=some 1:=by kernel_rfl
    rw [hz] at key;simpa using key
  obtain ⟨ie,hi1,hi2⟩:=b3b (P:=prog) (T:=9) (by rw [hp];decide);have hzero:ie.zero=some z:=by simpa [Program.zeroOf,hi1] using hz
  have hbb:Program.bytesOf prog 9=ie.bytes:=by simp [Program.bytesOf,hi1]
  have hbw:∀{x:Nat} {o:Obj},w.heap[x]? =some o→x < w.heap.size:=fun {x o} h=>by
    rcases qmk x w.heap.size with q | q
    · exact q
    · rw [Ze q] at h;cases h
  have hbl:=hbw hb;have hvl:=hbw hv;have hkk:(n:Int)+1 - (i:Int)=((n+1 - i:Nat):Int):=by omega
  have hik:i+(n+1 - i)=n+1:=by omega
  have htl:(cs.take (i)).length=i:=by rw [qlj];omega
  have hdl:(cs.drop (i)).length=(n - i):=by rw [qmj,hcs]
  have hold:(Builtin.firstCells ie.size i (.slice (some ⟨b,off,none⟩) i cap)).run prog w.drew=.ok (cs.take (i)).toArray w.drew:=by
    rw [hi2,hp];exact c1o (w:=w.drew) hb (by rw [Za];exact htl) (fun j x hj=>by
      rw [List.getElem?_take] at hj;split at hj
      · exact hc j x hj
      · cases hj)
  obtain ⟨G,hG⟩:∃G,G=grownCap w (n+1) cap 9:=⟨_,rfl⟩;obtain ⟨ROW,hROW⟩:∃ROW:Array Value,ROW=(cs.take (i)).toArray++Builtin.zeroCells z.cells (n+1 - i)++Builtin.zeroCells z.cells (G - (n+1)):=⟨_,rfl⟩;have hGn:n+1≤G:=by rw [hG];exact grownCap_ge w _ _ _
  have hrz:(Builtin.append_ #[48,3] 48 #[.slice (some ⟨b,off,none⟩) i cap,.int .i64 ((n:Int)+1 - (i:Int))]).run prog w=.ok (.slice (some ⟨w.heap.size,0,none⟩) (n+1) G) (w.drew.alloc (.cells ROW 9)):=by
    have hmul:(n+1) * ie.bytes≤140737488355328:=by rw [←hbb];exact ql7 (Nat.mul_le_mul (show n+1≤1048577 by omega) hby) (by decide)
    have hmul2:(n+1 - i) * ie.bytes≤(n+1) * ie.bytes:=qmy _ (by omega);have h:=Lib.run_append_grow_zeros w 48 3 48 9 ie z .i64 .i64 underlying48 underlying3 hi1 hzero (some ⟨b,off,none⟩) i cap (cs.take (i)) hold (n+1 - i) (by omega) (by rw [hi2,hp];decide) (by omega) (by omega) (by omega) (by rw [hik];exact growslice_fits hroom hmul);rw [hik] at h;rw [hkk,hROW,hG];exact h
  have hRs:ROW.size=G:=by
    rw [hROW];simp only [Array.size_append,List.size_toArray,Builtin.zeroCells,htl];simp [hzc];omega
  have hRt:∀(j:Nat) (x:Value),(cs.take (i))[j]? =some x→ROW[j]? =some x:=fun j x hj=>by
    have hlt:=(qlc.1 hj).1;rw [hROW,Array.append_assoc,Array.getElem?_append_left (by simpa using hlt),Zn];exact hj
  obtain ⟨c1,hc1⟩:∃c1:Array Value,c1=(ROW.toList.take (i)++vs++ROW.toList.drop (i+vs.length)).toArray:=⟨_,rfl⟩;have hc1s:c1.size=ROW.size:=by rw [hc1];exact c1x (by rw [hvs,hRs];omega)
  obtain ⟨c2,hc2⟩:∃c2:Array Value,c2=(c1.toList.take ((i+1))++cs.drop (i)++c1.toList.drop ((i+1)+(cs.drop (i)).length)).toArray:=⟨_,rfl⟩;have hc2s:c2.size=ROW.size:=by rw [hc2,c1x (by rw [hdl,hc1s,hRs];omega),hc1s]
  have hfin:∀(j:Nat) (x:Value),(cs.take (i)++(vs++cs.drop (i)))[j]? =some x→c2[j]? =some x:=by
    intro j x hj;have e1:=c45 (c:=ROW) (cs:=vs) (o:=i) (j:=j) (by rw [hvs,hRs];omega);have e2:=c45 (c:=c1) (cs:=cs.drop (i)) (o:=(i+1)) (j:=j) (by rw [hdl,hc1s,hRs];omega);rw [←hc1] at e1;rw [←hc2] at e2
    by_cases q1:j < i
    · rw [qls (by omega)] at hj
      rw [e2,if_neg (by omega),e1,if_neg (by omega)];exact hRt _ _ hj
    · rw [qli (by omega),htl] at hj
      by_cases q2:j < i+1
      · rw [qls (by omega)] at hj
        rw [e2,if_neg (by omega),e1,if_pos (by omega)];exact hj
      · rw [qli (by omega),hvs] at hj
        have hlt:=(qlc.1 hj).1;rw [e2,if_pos (by omega),show j - (i+1)=j - i - 1 by omega];exact hj
  obtain ⟨W1,hW1⟩:∃W1,W1=w.drew.alloc (.cells ROW 9):=⟨_,rfl⟩;have hN:W1.heap[w.heap.size]? =some (.cells ROW 9 (0,0)):=by rw [hW1];exact c0q w.drew _
  have hext:∀x,x < w.heap.size→W1.heap[x]? =w.heap[x]? :=fun x hx=>by rw [hW1];exact (Ext.alloc w.drew _ _).old x hx
  have hice:∀x:Addr,x.block < w.heap.size→W1.frozen? x=w.frozen? x:=fun x hx=>by rw [hW1];exact (Ext.alloc w.drew _ _).ice x hx
  have hsz:w.heap.size≤W1.heap.size:=by rw [hW1];simp
  have hos:W1.os=w.os∧W1.tape=w.tape∧W1.output=w.output:=by rw [hW1];exact ⟨rfl,rfl,rfl⟩
  rw [←hW1] at hrz;have hcpA:∀(ty:TypeId) (dc:Nat),(Builtin.copy_ #[48,48] ty #[.slice (some ⟨w.heap.size,i,none⟩) (n+1 - i) dc,.slice (some ⟨vb,voff,none⟩) 1 vcap]).run prog W1=.ok (goInt ((1:Nat):Int)) (W1.setRow w.heap.size c1):=fun ty dc=>by
    have h:=c0z (P:=prog) (w:=W1) (tS:=48) (ty:=ty) (e:=9) (g:=w.heap.size) (o:=i) (dLen:=n+1 - i) (dCap:=dc) (a:=⟨vb,voff,none⟩) (sLen:=1) (sCap:=vcap) (cur:=ROW) (t:=9) (cs:=vs) underlying48 (by rw [hp];decide) hN
      (by rw [hvs,hp,show Zj 1 (n+1 - i)=1 by simp only [Zb];split<;>omega])
      (fun j v hj=>by
        simp only [Zh,hext vb hvl,hv,Addr.add_lit];exact hvc _ _ hj)
      (by rw [hvs,hRs];omega) h1v
    rw [show Zj 1 (n+1 - i)=1 by simp only [Zb];split<;>omega] at h
    rw [hc1];exact h
  have hcpB:∀(W:World),W.heap=(W1.setRow w.heap.size c1).heap→∀(ty:TypeId) (dc sc:Nat),(Builtin.copy_ #[48,48] ty #[.slice (some ⟨w.heap.size,(i+1),none⟩) (n - i) dc,.slice (some ⟨b,off+i,none⟩) (n - i) sc]).run prog W=.ok (goInt ((n - i:Nat):Int)) (W.setRow w.heap.size c2):=fun W hW ty dc sc=>by
    have h:=c0z (P:=prog) (w:=W) (tS:=48) (ty:=ty) (e:=9) (g:=w.heap.size) (o:=(i+1)) (dLen:=n - i) (dCap:=dc) (a:=⟨b,off+i,none⟩) (sLen:=n - i) (sCap:=sc) (cur:=c1) (t:=9) (cs:=cs.drop (i)) underlying48 (by rw [hp];decide) (by rw [hW];exact setRow_heap _ _ _ _ _ _ hN)
      (by rw [hdl,hp,show Zj (n - i) (n - i)=n - i by simp [Zb]];exact (Za _).symm)
      (fun j v hj=>by
        rw [qmt] at hj;simp only [Zh,hW,setRow_other _ _ _ _ (show b≠w.heap.size by omega),hext b hbl,hb,Addr.add_lit];have:=hc _ _ hj
        rwa [←Nat.add_assoc] at this)
      (by rw [hdl,hc1s,hRs];omega) (fun v hv=>h1c v (qmg hv))
    rw [show Zj (n - i) (n - i)=n - i by simp [Zb]] at h;rw [hc2];exact h
  have key1:∀(ops:Array Oper) (rest:List Oper) (o:Oper) (a:Act) (Q:Exit→Act→World→Prop),o.guard=none→o.op=.call {callee:=.builtin .append,args:=#[.tmp 34,.tmp 39],argTypes:=#[48,3]}→o.type=48→a.eval (.tmp 34)=.slice (some ⟨b,off,none⟩) i cap→a.eval (.tmp 39)=.int .i64 ((n:Int)+1 - (i:Int))→wpList prog ops Q rest (a.put o.dst (.slice (some ⟨w.heap.size,0,none⟩) (n+1) G)) W1→wpList prog ops Q (o::rest) a w:=fun ops rest o a Q h1 h2 ht h3 h4 h5=>b8s _ h1 _ _ 48 3 h2 _ _ h3 h4 _ _ (by rw [ht];exact hrz) h5
  have key2:∀(ops:Array Oper) (rest:List Oper) (o:Oper) (a:Act) (Q:Exit→Act→World→Prop),o.guard=none→o.op=.call {callee:=.builtin .copy,args:=#[.tmp 43,.tmp 44],argTypes:=#[48,48]}→a.eval (.tmp 43)=.slice (some ⟨w.heap.size,i,none⟩) (n+1 - i) (G - i)→a.eval (.tmp 44)=.slice (some ⟨vb,voff,none⟩) 1 vcap→wpList prog ops Q rest (a.put o.dst (goInt ((1:Nat):Int))) (W1.setRow w.heap.size c1)→wpList prog ops Q (o::rest) a W1:=fun ops rest o a Q h1 h2 h3 h4 h5=>c0d _ h1 _ _ 48 48 h2 _ _ h3 h4 (hcpA _ _) h5
  have key3:∀(ops:Array Oper) (o:Oper) (a:Act) (K:Act→World→Prop) (Q:Exit→Act→World→Prop) (E:Prop),o.guard=none→o.op=Op.call {callee:=Callee.builtin Builtin.copy,args:=#[.tmp 50,.tmp 53],argTypes:=#[48,48]}→(a.eval (.tmp 50)=.slice (some ⟨w.heap.size,(i+1),none⟩) (n - i) (G - (i+1)))→(a.eval (.tmp 53)=.slice (some ⟨b,off+i,none⟩) (n - i) (cap - i))→K (a.put o.dst (goInt ((n - i:Nat):Int))) ((W1.setRow w.heap.size c1).drew.setRow w.heap.size c2)→(if Zf o (yielded ops a.tmps)=true then Oper.wp prog o a (W1.setRow w.heap.size c1).drew K Q else E):=fun ops o a K Q E h1 h2 h3 h4 h5=>c1g h1 _ _ 48 48 h2 _ _ h3 h4 (hcpB (W1.setRow w.heap.size c1).drew rfl _ _ _) h5
  have hleft:LeftRow w own (n+1) 1 (cs.take (i)++(vs++cs.drop (i))) (.returned (.slice (some ⟨w.heap.size,0,none⟩) (n+1) G)) ((W1.setRow w.heap.size c1).drew.setRow w.heap.size c2):=
    ⟨⟨w.heap.size,0,G,c2,9,rfl,hGn,by rw [hc2s,hRs];omega,.inr (qly _),setRow_heap _ _ c1 _ _ _ (setRow_heap W1 _ ROW _ _ _ hN),fun j x hj=>by rw [Nat.zero_add];exact hfin j x hj⟩,by simpa using hsz,fun x hx _=>by
      rw [setRow_other _ _ _ _ (show x≠w.heap.size by omega)];exact (setRow_other _ _ _ _ (show x≠w.heap.size by omega)).trans (hext x hx),hos.1,hos.2.1,hos.2.2,fun x hx=>by rw [b3o];exact (b3o W1 _ _ x).trans (hice x hx)⟩
  have hw1:IntKind.i64.wrap ((i:Int)+1)=(i:Int)+1:=by rw [IntKind.wrap_i64];omega
  have hw2:IntKind.i64.wrap ((n:Int)+1)=(n:Int)+1:=by rw [IntKind.wrap_i64];omega
  have hw3:IntKind.i64.wrap ((n:Int)+1 - (i:Int))=(n:Int)+1 - (i:Int):=by rw [IntKind.wrap_i64];omega
  have hz2:¬((i:Int)=(n:Int)):=by omega
  have hz3:(cap:Int) < (n:Int)+1:=by omega
  have hb1:(0:Int)≤(i:Int)+1:=by omega
  have hin:i≤n:=by omega
  have htn:((i:Int)+1).toNat=i+1:=by omega
  have hGi:¬(G=i):=by omega
  have hGim:¬(G=i+1):=by omega
  have hci:¬(cap=i):=by omega
  have hb3:(i:Int)≤(n:Int):=by omega
  have mixed:prog.follows Departure.mixedOrders=true:=by kernel_rfl
  clear hcpA hcpB hrz hfin hRt hROW hG hc1 hc2 hW1 hext hice hkk hik hold hos hRs hc1s hc2s
  go_enter func144,ntmps144
  go_wp2_with (first | (at_builtin;refine key1 _ _ _ _ _ rfl rfl rfl rfl rfl ?_) | (refine key2 _ _ _ _ _ rfl rfl rfl rfl ?_))
  go_region_law_o (go_loud (refine key3 _ _ _ _ _ _ rfl rfl (by simp [Act.eval,Act.put]) (by simp [Act.eval,Act.put]) ?_))
  go_wp2
  go_ret
  exact hleft
theorem g5b (xs:List V) (y:V) (i:Nat) (kx:Kd) (hk:kx=.flat∨(kx=.thin∧xs≠[])) (hi:i≤xs.length) (hl:xs.length≤1048576) (hz:∀x∈xs,x.cells.length=1) (hy:y.cells.length=1) :
    Con prog 144 [.ref 0,.int .i64 (Nat.cast i),.ref 1] [.arr xs kx,.arr [y] .flat] (.ref 2) [.dead,.dead,.arr (xs.take i++y::xs.drop i) .flat]:=by
  refine g46 (sz:=1) (O:=[.arr xs kx,.arr [y] .flat]) ⟨_,func144,rfl,rfl⟩ (.inl ⟨rfl,by simp⟩) (by decide) (fun z hm=> ?_) fun w vals μ ow vis hin=> ?_
  · rcases qll.1 hm with q | q
    · exact hz z (qlz q)
    · rcases qlv.1 q with rfl | q
      · exact hy
      · exact hz z (qmg q)
  have hv:=f1t hin.sz;have h1:=f9r hin (i:=1) rfl;rcases g4e hin (i:=2) (id:=1) rfl rfl (.inl rfl) with ⟨q,_⟩ | ⟨lv,cv,tv,vs,e2,ov,hvb,v1,v2,v3,v4,v5,v6,v7,_⟩
  · cases q
  have hls:lv.sz=1:=by rw [←v4 y (qlm.2 rfl),hy]
  have hvl:vs.length=1:=by rw [←(v5 w).length];simp [hy]
  have hlen:(xs.take i++y::xs.drop i).length=xs.length+1:=by simp;omega
  have hflat:(xs.take i++y::xs.drop i).flatMap Zk=(xs.flatMap Zk).take (i)++([y].flatMap Zk++(xs.flatMap Zk).drop (i)):=by
    rw [qmw,ql2,b3q _ 1 hz,b4v _ 1 hz];simp
  rw [hlen];rcases g4e hin (i:=0) (id:=0) rfl rfl (hk.imp id And.left) with ⟨q,a,e0⟩ | ⟨l,c,t,cs,e0,oc,hcb,c1,c2,c3,c4,c5,c6,c7,hth⟩
  · subst q
    obtain rfl:i=0:=by simpa using hi
    refine ⟨vs,fun w'=>by simpa using v5 w',v6,?_⟩;rw [hv,e0,h1,e2];have:=d8l (fun b=>ow b≠none) a 0 0 lv.b lv.off lv.cap cv cv tv tv [] vs w (.inl ⟨rfl,rfl,rfl⟩) hvb rfl hvl v7 (by simp) v6 (by decide);simpa using this
  · have hx:xs≠[]:=by
      rcases hk with rfl | ⟨_,q⟩
      · exact hth (by simp)
      · exact q
    have hsz:l.sz=1:=by
      obtain ⟨x,hm⟩:=List.exists_mem_of_ne_nil _ hx;rw [←c4 x hm,hz x hm]
    rw [hsz,Za] at c2;have hcl:cs.length=xs.length:=by rw [←(c5 w).length,b3f xs 1 hz,Za]
    have hone:∀v∈cs.take (i)++(vs++cs.drop (i)),v.oneCell'=true:=by
      intro v hm;rcases qll.1 hm with q | q
      · exact c6 v (qlz q)
      · rcases qll.1 q with q | q
        · exact v6 v q
        · exact c6 v (qmg q)
    refine ⟨cs.take (i)++(vs++cs.drop (i)),fun w'=> ?_,hone,?_⟩
    · rw [hflat]
      have hs:RepL w' M0 ((xs.flatMap Zk).take (i)++(xs.flatMap Zk).drop (i)) cs []:=by rw [Zl];exact c5 w'
      obtain ⟨x1,x2,b1,b2,ex,eb,r1,r2⟩:=RepL.split _ _ hs;have hb:=List.append_eq_nil_iff.1 eb.symm;have hx1:x1.length=i:=by rw [←r1.length,qlj,b3f xs 1 hz];omega
      have e1:cs.take (i)=x1:=by rw [ex,←hx1,List.take_left]
      have e2':cs.drop (i)=x2:=by rw [ex,←hx1,List.drop_left]
      rw [e1,e2'];rw [hb.1] at r1;rw [hb.2] at r2;exact r1.append ((v5 w').append r2)
    · rw [hv,e0,h1,e2]
      have hvb':lv.b≠l.b:=fun e=>by rw [e,oc] at ov;simp at ov
      rcases Nat.lt_or_eq_of_le hi with q | q
      · by_cases hroom:xs.length+1≤l.cap
        · exact f1d (fun b=>ow b≠none) l.b l.off xs.length l.cap i lv.b lv.off lv.cap c cv t tv cs vs w hcb hvb hvb' hroom c2 hcl hvl c7 v7 c6 v6 q hl (by show ow l.b≠none;rw [oc];simp)
        · exact g3l (fun b=>ow b≠none) l.b l.off xs.length l.cap i lv.b lv.off lv.cap c cv t tv cs vs w hcb hvb c1 (by omega) hcl hvl c7 v7 c6 v6 q hl
      · subst q
        have:=d8l (fun b=>ow b≠none) (some ⟨l.b,l.off,none⟩) xs.length l.cap lv.b lv.off lv.cap cv cv tv tv cs vs w (.inr ⟨l.b,l.off,c,t,rfl,by show ow l.b≠none;rw [oc];simp,hcb,c1,c2,c7⟩) hvb hcl hvl v7 c6 v6 hl;rw [ql3 (by omega),ql4 (by omega),qml];exact this
theorem d8v {m:Nat} {s:St} (id t:Nat) (k:Kd) (hO:s.O[id]? =some (.arr [] k)) (hk:k≠.thin) (ht:s.get t=.ref id):b44 m s {s with env:=b7d t .nsl s.env}:=by
  intro cx a w μ ow hmu h;refine ⟨μ,ow,h.dfr,h.sz,fun k'=> ?_,h.blk,h.dom,h.owl,h.own,h.frm,h.mu⟩;show ∃bl,Rep w μ (Go.Vm.look k' (b7d t .nsl s.env)) _ bl∧_;have hne:Go.Vm.look t s.env≠.any:=by
    have:Go.Vm.look t s.env=.ref id:=ht;rw [this];simp
  rw [b6x t _ s.env k' (.inl hne)]
  by_cases hkt:k'=t
  · subst hkt
    rw [if_pos rfl];obtain ⟨bl,r1,_⟩:=h.env k';rw [ht] at r1;obtain ⟨l,q1,q2,q3⟩:=h.blk id _ hO;refine ⟨[],?_,by simp⟩;generalize a.tmps.getD k' undef=x at r1;cases r1 with
    | ref _ l2 _ hl hd=>
      rw [hl] at q1;obtain rfl:=Option.some.inj q1;cases hd with
      | real hr=>
        rcases q3 with ⟨q,_⟩ | ⟨_,_,_,_,_,q⟩
        · rw [hr] at q;cases q
        · exact absurd rfl (q hk)
      | nil ad _ _=>exact .nsl ad
  · rw [if_neg hkt]
    exact h.env k'
theorem f1n {m:Nat} {s:St} (id i:Nat) (xs pre ys:List V) (k:Kd) (hO:s.O[id]? =some (.arr xs k)) (hk:k=.deep∨k=.part) (hi:xs[i]? =some (.agg (pre++[slN ys]))) (hns:ys.all V.noSl=true) (hv:s.vw=false) :
    b44 m s {s with O:=s.O.set id (.arr (xs.set i (.agg (pre++[.ref s.O.length]))) .part)++[.arr ys .flat]}:=by
  cases ys with
  | nil=>exact g26 id i xs pre k hO hk hi
  | cons y l=>exact c80 id i xs pre (y::l) k .flat hO hk hi (by simp) (.inr ⟨rfl,hns⟩) hv
theorem f5a {m:Nat} {s:St} (b j:Nat) (pre:List V) (hb:s.O[b]? =some (.box (.agg (pre++[.ref j])) .mix)) (hj:s.O[j]? =some (eQ)) (hne:b≠j) (h1:[V.agg (pre++[.ref j])].all V.noSl=true) (h2:[V.agg (pre++[.nsl])].all V.noSl=true) (h3:[V.agg (pre++[.nsl])].all V.noRef=true) :
    b44 m s {s with O:=(s.O.set b (.box (.agg (pre++[.nsl])) .flat)).set j .dead}:=by
  have lb:b < s.O.length:=(qlc.1 hb).1;have w1:=g5i (m:=m) (s:=s) b _ (.box (.agg (pre++[.ref j])) .part) [.agg (pre++[.ref j])] hb (.inr ⟨_,_,rfl,rfl,rfl,rfl⟩) h1;let s1:St:={s with O:=s.O.set b (.box (.agg (pre++[.ref j])) .part)}
  have hb1:s1.O[b]? =some (.box (.agg (pre++[.ref j])) .part):=qlf lb;have hj1:s1.O[j]? =some (eQ):=by show (s.O.set b _)[j]? =_;rw [qld hne];exact hj
  have w2:=f6r (m:=m) (s:=s1) b j _ (.box (.agg (pre++[.nsl])) .part) [.agg (pre++[.ref j])] [.agg (pre++[.nsl])] pre [] .flat hb1 hj1 hne (.inr ⟨_,_,rfl,rfl,rfl,rfl⟩) (by simp) (by simp [Zk]) (by simp [Zk]) rfl (d2e (post:=[]));let s2:St:={s1 with O:=(s1.O.set b (.box (.agg (pre++[.nsl])) .part)).set j .dead}
  have hb2:s2.O[b]? =some (.box (.agg (pre++[.nsl])) .part):=by
    show ((s1.O.set b _).set j _)[b]? =_;rw [qld hne.symm,qlf (by simpa [s1] using lb)]
  have w3:b44 m s2 {s2 with O:=s2.O.set b (.box (.agg (pre++[.nsl])) .flat)}:=b92 b _ _ [.agg (pre++[.nsl])] .part .flat hb2 (.inr ⟨_,_,rfl,rfl,rfl,rfl⟩) (fun _ _ _ _ _ _ q1 _=>⟨b5d q1 h3,b65 q1 h2⟩) (.inl (by simp))
  have w:=b0m w1 (b0m w2 w3);have e:s2.O.set b (.box (.agg (pre++[.nsl])) .flat)=(s.O.set b (.box (.agg (pre++[.nsl])) .flat)).set j .dead:=by
    simp only [s2,s1];rw [Zo,List.set_comm _ _ hne.symm,Zo]
  rw [e] at w;exact w
theorem f8t {α:Type} {f:α→V} {l:List α} (h:l≠[]):slN (l.map f)=.sl (l.map f):=by
  cases l with
  | nil=>exact absurd rfl h
  | cons x l=>rfl
theorem f9n (l:List ByteArray) (s:ByteArray):slN ((b6i l s).map V.str)=.sl ((b6i l s).map V.str):=f8t (by intro e;have:=d9h l s;rw [e] at this;simp at this)
theorem d8f {m:Nat} {s:St} (id:Nat) (l:List TI) (k:Kd) (hO:s.O[id]? =some (.arr (l.map rQe) k)):b44 m s {s with O:=s.O.set id (.arr (l.map rQb) k)}:=by
  refine b8a id _ _ (l.map rQe) (l.map rQb) k hO (.inl ⟨rfl,rfl⟩) ?_ (by simp) fun n hn y hy=> ?_
  · clear hO
    induction l with
    | nil=>exact trivial
    | cons x l ih=>
      rw [qm5,qm5,ql2,ql2];refine WkL.append ?_ ih;refine ⟨.inl rfl,.inl rfl,.inl rfl,?_,trivial⟩;cases x.2.2.2 with
      | nil=>exact .inr (.inl ⟨rfl,rfl⟩)
      | cons y l=>exact .inl rfl
  · obtain ⟨x,hx,rfl⟩:=qmd.1 hy
    rw [←hn _ (qmd.2 ⟨x,hx,rfl⟩)];rfl
theorem f5l (x:TI):V.noRef (rQe x)=true:=by
  obtain ⟨a,b,c,d⟩:=x;cases d<;>rfl
theorem f9s (l:List ByteArray) (s:ByteArray):(l.map V.str).take (c3p s l)++V.str s::(l.map V.str).drop (c3p s l)=(b6i l s).map V.str:=by
  rw [b6i,qmu,qm5,List.map_take,List.map_drop]
def c62 (fl:List TA) (acc:List Int) (i:Int):List Int:=match fl[i.toNat]? with
  | some a=>acc.set a.2.1.toNat (acc.getD a.2.1.toNat 0 - 1)
  | none=>acc
theorem d53 (fl:List TA) (need:List Int):∀L:List Int,(b8y fl L need).2.foldl (c62 fl) need=(b8y fl L need).1:=by
  have key:∀(L:List Int) (s:List Int×List Int),s.2.foldl (c62 fl) need=s.1→(L.foldl (b6r fl) s).2.foldl (c62 fl) need=(L.foldl (b6r fl) s).1:=by
    intro L
    induction L with
    | nil=>intro s h;exact h
    | cons i L ih=>
      intro s h;refine ih _ ?_;unfold b6r;split
      · rename_i a ha
        split
        · show (s.2++[i]).foldl (c62 fl) need=_
          rw [Zd,h];show c62 fl s.1 i=_;rw [c62,ha]
        · exact h
      · exact h
  exact fun L=>key L (need,[]) rfl
theorem g34 (fl:List TA):∀(L:List Int) (acc:List Int),(L.foldl (c62 fl) acc).length=acc.length
  | [],_=>rfl
  | i::L,acc=>by
    show (L.foldl (c62 fl) (c62 fl acc i)).length=_;rw [g34 fl L,c62];split
    · rw [qlr]
    · rfl
theorem f7o {fl:List TA} {L:List Int} {j:Nat} {i:Int} (need:List Int) (h:L[j]? =some i):(L.take (j+1)).foldl (c62 fl) need=c62 fl ((L.take j).foldl (c62 fl) need) i:=by
  rw [qlx,h,Zd];rfl
theorem d5s {fl:List TA} {b:Int} (hb:0≤b):∀(L:List Int) (acc:List Int),(∀v∈acc,-b≤v∧v≤6)→∀v∈L.foldl (c62 fl) acc,-b - L.length≤v∧v≤6
  | [],acc,h=>fun v hv=>by have:=h v hv;simp;omega
  | i :: L, acc,h=>fun v hv=>by
    have h1 : ∀v∈c62 fl acc i,-(b+1)≤v∧v≤6:=by
      intro v hv;rw [c62] at hv;split at hv
      · rename_i a _
        rcases List.mem_or_eq_of_mem_set hv with q | q
        · have:=h v q;omega
        · have hk:-b≤acc.getD a.2.1.toNat 0∧acc.getD a.2.1.toNat 0≤6:=by
            rw [qlo];cases hz:acc[a.2.1.toNat]? with
            | none=>simp;omega
            | some z=>simpa using h z (qlb hz)
          omega
      · have:=h v hv;omega
    have:=d5s (by omega) L _ h1 v hv;rw [qme];omega
end Go.Proofs.YtmbbjhopngejaaaGreat
