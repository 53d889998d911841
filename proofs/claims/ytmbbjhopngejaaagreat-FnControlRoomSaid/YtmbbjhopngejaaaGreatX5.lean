/- What functions compute. No condition. -/
import Derived.Test.YtmbbjhopngejaaaGreatX4
set_option linter.all false
open Bool renaming and_eq_true → Za, eq_false_or_eq_true → Ze
open List renaming all_eq_not_any_not → Zb, sublist_append_left → Zd, all_cons → Zg
open Go.Vm.V renaming int → Zc
open Nat renaming cast → Zf
namespace Go.Proofs.YtmbbjhopngejaaaGreat
open Go Go.Vm Tryz
set_option maxHeartbeats 8000000
section
variable (l:List TA) (g:Nat) (caps:List V) (p:TA→Bool) (hl:l.length≤1048576) (hc:Caps caps) (hg:∀x0 x1 x2 x3 x4,(x0,x1,x2,x3,x4)∈l→Con prog g (V.agg [V.str x0,Zc .i64 x1,Zc .i64 x2,Zc .i64 x3,Zc .i64 x4]::caps) [] (.bool (p (x0,x1,x2,x3,x4))) [])
include l g caps p hl hc hg
theorem b6o:Con prog 117 [sQ rQa l,.fn g caps] [] (.int .i64 (b2r p 0 l)) []:=by
 apply zcn [.tmp 4] [] func117 ntmps117;intro _ _ _;have T:=tq5 Y3 Y4 Y9 Y28 Y98;have F:=Fc.mk True.intro;apply yR [0,1];apply b0e;intros;apply yR [0,1,7,8];apply b0g;intro _ _ x4 _ _;apply b05 (fun i=>⟨[(0,sQ rQa l),(1,.fn g caps),(7,.int .i64 l.length),(8,.int .i64 (Zf i))],[],false,19,0⟩) (fun i=>i≤l.length∧b2r p i (l.drop i)=b2r p 0 l) (fun i=>l.length - i) 0
 ·refine b18 [0,1,7,8] ?_;simp only [b0r,b0k,b0i,b0f,b0n,Nat.reduceEqDiff,reduceIte];rfl
 ·exact ⟨qle _,rfl⟩
 ·rintro i hok5 Q5 n5 e5 r5;obtain ⟨hi1,hR⟩:=hok5;apply yR [0,1,7,8,9];apply b0e;intros;apply b0c _ rfl
  ·intro hc0;have hlt:i < l.length:=by omega
   obtain ⟨⟨x0,x1,x2,x3,x4⟩,hx⟩:∃x:TA,l[i]? =some x:=⟨l[i]'(by omega),qla (by omega)⟩;have hst:=b5j (p:=p) hx;apply zn [0,1,7,8];apply b0e;intros;apply b0g;intros;have F:=Fc.mk (gdm hx);apply yR [0,1,5,7,8];apply b1l [0,1,5,7,8,16];intro _ k12;apply (zq8);apply (f9c);apply zcc (hg x0 x1 x2 x3 x4 (qlb hx));apply k12 _;apply (zk);apply b0c _ rfl
   ·intro hc1;apply yR [4];apply (zr);exact b0h rfl (by rw [←hR,hst,if_pos hc1]) (.inl rfl)
   ·intro hc1;apply zn [0,1,7,8];apply (yV);apply n5 _ (i+1)
    ·apply b4e [0,1,7,8] [];rfl
    ·exact ⟨by omega,by rw [←hR,hst,if_neg (by simp [hc1])]⟩
    ·show _ < _;omega
  ·intro hc0;apply zn [];apply yR [4];apply (zr);exact b0h rfl (by rw [←hR,b6g (by omega)]) (.inl rfl)
theorem b3n:Con prog 131 [sQ rQa l,.fn g caps] [] (.bool (l.any p)) []:=by
 apply zcn [.tmp 4] [] func131 ntmps131;intro _ _ _;have T:=tq4 Y3 Y9 Y28 Y98;have F:=Fc.mk True.intro;apply yR [0,1];apply b1l [4];intro _ k2;apply (zq2);apply zcc (b6o l g caps p hl hc hg);apply (d8q);apply (b2h);apply k2 _;apply (zq1);exact b0h rfl (by rw [c2a]) (.inl rfl)
end
theorem b49 (l:List TA) (hl:l.length≤1048576):Con prog 96 [sQ rQa l] [] (.ref 0) [aQ rQa l]:=by
 have hns:(l.map rQa).all V.noSl=true:=by rw [qmp,qlk];intro a _;rfl
 apply zcn [.tmp 2] [] func96 ntmps96;intro _ _ _;have T:=tq4 Y3 Y9 Y28 Y98;have F:=Fc.mk True.intro;have F:=Fc.mk hns;apply yR [0];apply b0e;intros;apply b1l [0,4];intro _ k3;apply (zU);apply (g1o);intro _ hnb4;apply k3 _;apply (zk);apply b0c _ rfl
 ·intro hc0;have hnil:l=[]:=by cases l with | nil=>rfl | cons a b=>have:=hnb4 (by simp);rw [hc0] at this;cases this
  apply yR [2];apply (zr);rw [hnil];exact b1q rfl rfl rfl
 ·intro hc0;apply zn [0];apply yR [2];apply (zr);exact b1q rfl rfl (by simp)
def c7u (fl:List TA) (ts:List Int) (i:Int):Int:=match fl[i.toNat]? with | some a=>Tm.at_ ts a.2.2.1.toNat | none=>0
def b53 (fl:List TA) (ts:List Int) (i j:Int):Bool:=decide (c7u fl ts i < c7u fl ts j)
def b8l (fl:List TA) (ts:List Int) (a:TA):Bool:=b19 a && decide (0≤Tm.at_ ts a.2.2.1.toNat)
def b2k (fl:List TA) (ts:List Int):Nat→List Int
  | 0=>[]
  | m+1=>b2k fl ts m++(match fl[m]? with | some a=>if b8l fl ts a=true then [(m:Int)] else [] | none=>[])
def b7m (fl:List TA) (ts:List Int):List Int:=b3m (b53 fl ts) (b2k fl ts fl.length)
theorem d03 {fl:List TA} {ts:List Int} {m:Nat} {a:TA} (h:fl[m]? =some a):b2k fl ts (m+1)=if b8l fl ts a=true then b2k fl ts m++[(m:Int)] else b2k fl ts m:=by
  rw [b2k,h];simp only;split<;>simp
theorem c0b (fl:List TA) (ts:List Int):∀m,(b2k fl ts m).length≤m
  | 0=>qly _
  | m+1=>by
    have:=c0b fl ts m;rw [b2k,qln];split
    · split<;>simp<;>omega
    · simp;omega
theorem c0f (fl:List TA) (ts:List Int):∀m,∀i∈b2k fl ts m,∃(k:Nat) (a:TA),i=(k:Int)∧k < m∧fl[k]? =some a∧b8l fl ts a=true
  | 0,i,h=>by cases h
  | m + 1,i,h=>by
    rw [b2k,qll] at h;rcases h with h | h
    · obtain ⟨k,a,h1,h2,h3⟩:=c0f fl ts m i h
      exact ⟨k,a,h1,by omega,h3⟩
    · split at h
      · rename_i a ha
        split at h
        · rename_i hp
          rw [qlm] at h;exact ⟨m,a,h,by omega,ha,hp⟩
        · cases h
      · cases h
theorem c2s {fl:List TA} {ts:List Int} {i:Int} (h:i∈b7m fl ts):∃(k:Nat) (a:TA),i=(k:Int)∧k < fl.length∧fl[k]? =some a∧b8l fl ts a=true:=c0f fl ts _ i (c4s.1 h)
theorem c5s (fl:List TA) (ts:List Int):(b7m fl ts).length≤fl.length:=by rw [b7m,d0l];exact c0b ..
theorem d2c (fl:List TA) (ts:List Int):∀m,(b2k fl ts m).Pairwise (· < ·)
  | 0=>List.Pairwise.nil
  | m + 1=>by
    rw [b2k,List.pairwise_append];refine ⟨d2c fl ts m,?_,?_⟩
    · split
      · split
        · exact List.pairwise_singleton ..
        · exact List.Pairwise.nil
      · exact List.Pairwise.nil
    · intro a ha _ hb
      obtain ⟨k,_,h1,h2,_⟩:=c0f fl ts m a ha;split at hb
      · split at hb
        · rw [qlm] at hb;omega
        · cases hb
      · cases hb
theorem d4j (fl:List TA) (ts:List Int):(b7m fl ts).Nodup:=by
  refine (c6j (b53 fl ts) _).symm.nodup ?_;exact (d2c fl ts _).imp fun h=>by omega
def b6r (fl:List TA) (s:List Int×List Int) (i:Int):List Int×List Int:=
  match fl[i.toNat]? with
  | some a=>if 0 < s.1.getD a.2.1.toNat 0 then (s.1.set a.2.1.toNat (s.1.getD a.2.1.toNat 0 - 1),s.2++[i]) else s
  | none=>s
def b8y (fl:List TA) (order need:List Int):List Int×List Int:=order.foldl (b6r fl) (need,[])
theorem d3x {fl:List TA} {order need:List Int} {k:Nat} {i:Int} (h:order[k]? =some i):b8y fl (order.take (k+1)) need=b6r fl (b8y fl (order.take k) need) i:=by
  rw [b8y,qlx,h,List.foldl_append];rfl
theorem b8c {fl:List TA} {need:List Int} (hn:need.length=4∧∀x∈need,0≤x∧x≤6):∀(order:List Int),(b8y fl order need).1.length=4∧(∀x∈(b8y fl order need).1,0≤x∧x≤6)∧(b8y fl order need).2.length≤order.length∧(b8y fl order need).2.Sublist order:=by
  have key : ∀ (order:List Int) (s:List Int×List Int) (o0:List Int),(s.1.length=4∧(∀x∈s.1,0≤x∧x≤6)∧s.2.Sublist o0)→((order.foldl (b6r fl) s).1.length=4∧(∀x∈(order.foldl (b6r fl) s).1,0≤x∧x≤6)∧(order.foldl (b6r fl) s).2.Sublist (o0++order)):=by
    intro order
    induction order with
    | nil=>intro s o0 h;rw [qml];exact h
    | cons i l ih=>
      intro s o0 h;rw [List.foldl_cons];have h2:=ih (b6r fl s i) (o0++[i]) ?_
      · rw [ql5] at h2;exact h2
      · unfold b6r
        split
        · rename_i a ha
          split
          · rename_i hp
            refine ⟨by rw [qlr];exact h.1,fun x hx=> ?_,h.2.2.append (List.Sublist.refl _)⟩;rcases List.mem_or_eq_of_mem_set hx with q | q
            · exact h.2.1 x q
            · have hk:s.1.getD a.2.1.toNat 0≤6:=by
                rw [qlo] at hp⊢;cases hz:s.1[a.2.1.toNat]? with
                | none=>rw [hz] at hp;simp at hp
                | some z=>simpa using (h.2.1 z (qlb hz)).2
              omega
          · exact ⟨h.1,h.2.1,h.2.2.trans (Zd ..)⟩
        · exact ⟨h.1,h.2.1,h.2.2.trans (Zd ..)⟩
  intro order;have h:=key order (need,[]) [] ⟨hn.1,hn.2,List.Sublist.refl _⟩;rw [List.nil_append] at h;exact ⟨h.1,h.2.1,h.2.2.length_le,h.2.2⟩
theorem c14:∀{a b c:List UInt8},Op.bytesLess a b=true→Op.bytesLess b c=true→Op.bytesLess a c=true
  | _,[],_,h,_=>by simp [Op.bytesLess] at h
  | _,_::_,[],_,h=>by simp [Op.bytesLess] at h
  | [],_::_,_::_,_,_=>rfl
  | x ::a,y::b,z::c,h,k=>by
    simp only [Op.bytesLess,Bool.or_eq_true,decide_eq_true_eq,Za,beq_iff_eq] at h k⊢;rcases h with h | ⟨rfl,h⟩
    · rcases k with k | ⟨rfl,_⟩
      · exact .inl (UInt8.lt_trans h k)
      · exact .inl h
    · rcases k with k | ⟨rfl,k⟩
      · exact .inl k
      · exact .inr ⟨rfl,c14 h k⟩
theorem b8n {a b c:ByteArray} (h:b2v a b=true) (k:b2v b c=true):b2v a c=true:=c14 h k
theorem f6m {a b:ByteArray} (h:b2v a b=true):a≠b:=by
  intro e;subst e;rw [b7c] at h;cases h
theorem c3x {α:Type} {ok:α→Bool} {bf:α→α→Bool} (tr:∀a b c,bf a b=true→bf b c=true→bf a c=true):∀{l:List α} {p:Option α},b2j ok bf p l=true→(∀q,p=some q→∀x∈l,bf q x=true)∧l.Pairwise fun x y=>bf x y=true
  | [],_,_=>⟨fun _ _ x hx=>(by cases hx),List.Pairwise.nil⟩
  | y::l,none,h=>by
    simp only [b2j,Za] at h;obtain ⟨h1,h2⟩:=c3x tr h.2;exact ⟨fun q hq=>(by cases hq),List.pairwise_cons.2 ⟨h1 y rfl,h2⟩⟩
  | y::l,some p,h=>by
    simp only [b2j,Za] at h;obtain ⟨h1,h2⟩:=c3x tr h.2;refine ⟨fun q hq x hx=> ?_,List.pairwise_cons.2 ⟨h1 y rfl,h2⟩⟩;cases hq;rcases qlv.1 hx with rfl | q
    · exact h.1.2
    · exact tr _ _ _ h.1.2 (h1 y rfl x q)
theorem f1y {α:Type} {ok:α→Bool} {bf:α→α→Bool} (tr:∀a b c,bf a b=true→bf b c=true→bf a c=true) {l:List α} (h:b11 ok bf l 0=true):l.Pairwise fun x y=>bf x y=true:=(c3x tr h).2
theorem c12 {α:Type} {ok:α→Bool} {bf:α→α→Bool}:∀{l:List α} {p:Option α},b2j ok bf p l=(b2j (fun _=>true) bf p l && l.all ok)
  | [],_=>rfl
  | y::l,none=>by
    rw [b2j,b2j,c12,Zg];cases ok y<;>cases b2j (fun _=>true) bf (some y) l<;>simp
  | y::l,some p=>by
    rw [b2j,b2j,c12,Zg];cases ok y<;>cases bf p y<;>cases b2j (fun _=>true) bf (some y) l<;>simp
theorem d7f {α:Type} {ok:α→Bool} {bf:α→α→Bool} {l:List α}:b11 ok bf l 0=(b11 (fun _=>true) bf l 0 && l.all ok):=c12
def b4l (fl:List TA) (s:ByteArray):Int:=b2r (fun x:TA=>decide (x.1=s)) 0 fl
def b7k (order:List Int) (m:Nat):List Int:=((List.range m).map fun k:Nat=>(k:Int)).filter fun i=>decide (i∈order)
def b8r (fl:List TA) (order:List Int):Nat→List ByteArray
  | 0=>[]
  | m+1=>b8r fl order m++(match fl[m]? with | some a=>if (m:Int)∈order then [a.1] else [] | none=>[])
theorem c9i {fl:List TA} {order:List Int} {m:Nat} {a:TA} (h:fl[m]? =some a):b8r fl order (m+1)=if (m:Int)∈order then b8r fl order m++[a.1] else b8r fl order m:=by
  rw [b8r,h];simp only;split<;>simp
def nameAt (fl:List TA) (i:Int):ByteArray:=match fl[i.toNat]? with | some a=>a.1 | none=>⟨#[]⟩
theorem d22 (order:List Int) (m:Nat):b7k order (m+1)=b7k order m++(if (m:Int)∈order then [(m:Int)] else []):=by
  rw [b7k,List.range_succ,qmu,List.filter_append,b7k]
  congr 1
  by_cases h:(m:Int)∈order<;>simp [h]
theorem d8t (fl:List TA) (order:List Int):∀m,m≤fl.length→b8r fl order m=(b7k order m).map (nameAt fl)
  | 0,_=>rfl
  | m+1,h=>by
    have ha:fl[m]? =some fl[m]:=qla (by omega);rw [c9i ha,d22,qmu,d8t fl order m (by omega)];split
    · simp [nameAt,ha]
    · simp
theorem g4z {order:List Int} {m:Nat} (hn:order.Nodup) (hv:∀i∈order,∃k:Nat,i=(k:Int)∧k < m):(b7k order m).Perm order:=by
  refine (List.perm_ext_iff_of_nodup ?_ hn).2 fun i=> ?_
  · refine List.Pairwise.filter _ ?_
    exact List.Pairwise.map _ (fun a b h e=>h (by omega)) List.nodup_range
  · rw [b7k,List.mem_filter,decide_eq_true_eq]
    constructor
    · exact fun h=>h.2
    · intro h
      obtain ⟨k,hk,hm⟩:=hv i h;exact ⟨qmd.2 ⟨k,qmc.2 hm,hk.symm⟩,h⟩
def dsB (n:Int) (ss:List TS) (fl:List TA):Bool:=c0c n ss && b6e fl && fl.all fun a=>c1m n a.2.2.1
theorem b74 {n:Int} {ss:List TS} (h:c0c n ss=true):(1≤n∧n≤14)∧ss.length≤40∧∀s∈ss,b7j n s=true:=by
  simp only [c0c,c6o,Za,decide_eq_true_eq,Bool.not_eq_true',decide_eq_false_iff_not] at h;exact ⟨h.1.1,by omega,d9i h.2⟩
theorem b6f {n x:Int} (h1:1≤n∧n≤14):c1m n x=(decide (0≤x) && decide (x < n)):=by
  rw [c1m,c3k (by omega) (by omega)]
  congr 1
  exact decide_eq_decide.2 (by omega)
theorem d87 {fl:List TA} (h:b6e fl=true):∀a∈fl,c3f a=true:=by
  simp only [b6e,Za] at h;exact d9i h.1
structure DsFacts (n:Int) (ss:List TS) (fl:List TA):Prop where
  hn:1≤n∧n≤14
  hsl:ss.length≤40
  hss:∀s∈ss,b7j n s=true
  hfl:fl.length≤12
  hap:∀a∈fl,(0≤a.2.1∧a.2.1≤3)∧0≤a.2.2.1∧a.2.2.1 < n
  hinc:fl.Pairwise fun x y=>c59 x y=true
theorem d8z {n:Int} {ss:List TS} {fl:List TA} (h:dsB n ss fl=true):DsFacts n ss fl:=by
  simp only [dsB,Za,List.all_eq_true] at h;obtain ⟨⟨h1,h2⟩,h3⟩:=h;obtain ⟨t1,t2,t3⟩:=b74 h1;refine ⟨t1,t2,t3,f3p h2,fun a ha=> ?_,?_⟩
  · have k1:=f4h (d87 h2 a ha)
    have k2:=h3 a ha;rw [b6f t1] at k2;simp only [Za,decide_eq_true_eq] at k2;exact ⟨⟨k1.1,k1.2.1⟩,k2⟩
  · simp only [b6e,Za] at h2
    exact f1y (bf:=c59) (fun a b c h k=>b8n (show b2v a.1 b.1=true from h) (show b2v b.1 c.1=true from k)) h2.1
theorem b6h {α:Type} {p:α→Bool} {l:List α} {i:Nat} {x:α} (h:l[i]? =some x):(l.drop i).all p=(p x && (l.drop (i+1)).all p):=by
  rw [b1p h,Zg]
theorem b8o {α:Type} {p:α→Bool} {l:List α} {i:Nat} (h:l.length≤i):(l.drop i).all p=true:=by
  rw [ql4 h];rfl
theorem c5r (x0:ByteArray) (x1:Int) (x2:Int) (x3:Int) (x4:Int) (s:ByteArray):Con prog 118 [.agg [V.str x0,Zc .i64 x1,Zc .i64 x2,Zc .i64 x3,Zc .i64 x4],.pv [.str s] 0 0] [] (.bool (decide (x0=s))) []:=by
 apply zcn [.tmp 3] [] func118 ntmps118;intro _ _ _;have T:=tq3 Y3 Y9 Y98;have F:=Fc.mk True.intro;apply yR [1,2];apply yR [3];apply (zr);exact b0h rfl (by first | rfl | simp) (.inl rfl)
theorem b6w (fl:List TA) (s:ByteArray) (hl:fl.length≤1048576):Con prog 55 [sQ rQa fl,.str s] [] (.int .i64 (b4l fl s)) []:=by
 apply zcn [.tmp 4] [] func55 ntmps55;intro _ _ _;have T:=tq4 Y3 Y9 Y28 Y98;have F:=Fc.mk True.intro;apply yR [0,3];apply yRc [4] (b6o fl _ _ (fun x=>decide (x.1=s)) hl (.pv _ .nil) (fun x0 x1 x2 x3 x4 _=>c5r x0 x1 x2 x3 x4 s));apply (zr);exact b0h rfl rfl (.inl rfl)
theorem b6v (fl:List TA) (s:ByteArray) (hl:fl.length≤1048576):Con prog 57 [sQ rQa fl,.str s] [] (.int .i64 (b4l fl s)) []:=by
 apply zcn [.tmp 4] [] func57 ntmps57;intro _ _ _;have T:=tq4 Y3 Y9 Y28 Y98;have F:=Fc.mk True.intro;apply yR [0,1];apply b0e;intros;apply yR [1,7,8,9];apply b0g;intro _ _ x4 _ _;apply b05 (fun i=>⟨[(1,.str s),(7,sQ rQa fl),(8,.int .i64 fl.length),(9,.int .i64 (Zf i))],[],false,20,0⟩) (fun i=>i≤fl.length∧b2r (fun x:TA=>decide (x.1=s)) i (fl.drop i)=b2r (fun x:TA=>decide (x.1=s)) 0 fl) (fun i=>fl.length - i) 0
 ·refine b18 [1,7,8,9] ?_;simp only [b0r,b0k,b0i,b0f,b0n,Nat.reduceEqDiff,reduceIte];rfl
 ·exact ⟨qle _,rfl⟩
 ·rintro i hok5 Q5 n5 e5 r5;obtain ⟨hi1,hR⟩:=hok5;apply yR [1,7,8,9,10];apply b0e;intros;apply b0c _ rfl
  ·intro hc0;have hlt:i < fl.length:=by omega
   obtain ⟨⟨x0,x1,x2,x3,x4⟩,hx⟩:∃x:TA,fl[i]? =some x:=⟨fl[i]'(by omega),qla (by omega)⟩;have hst:=b5j (p:=fun x:TA=>decide (x.1=s)) hx;apply zn [1,7,8,9];apply b0e;intros;apply b0g;intros;have F:=Fc.mk (gdm hx);apply yR [1,5,6,7,8,9];apply yR [1,5,7,8,9,17];apply b0c _ rfl
   ·intro hc1;apply yR [4];apply (zr);exact b0h rfl (by rw [b4l,←hR,hst,if_pos (by simpa using hc1)]) (.inl rfl)
   ·intro hc1;apply zn [1,7,8,9];apply (yV);apply n5 _ (i+1)
    ·apply b0d [1,7,8,9] [];rfl
    ·exact ⟨by omega,by rw [←hR,hst,if_neg (by simpa using hc1)]⟩
    ·show _ < _;omega
  ·intro hc0;apply zn [];apply yR [4];apply (zr);exact b0h rfl (by rw [b4l,←hR,b6g (by omega)]) (.inl rfl)
theorem b5k (x0:ByteArray) (x1:Int) (x2:Int) (x3:Int) (x4:Int) (n:Int) (ss:List TS):Con prog 132 [.agg [V.str x0,Zc .i64 x1,Zc .i64 x2,Zc .i64 x3,Zc .i64 x4],.pv [.pv [tQ n ss] 0 0] 0 0] [] (.bool (!c1m n x2)) []:=by
 apply zcn [.tmp 3] [] func132 ntmps132;intro _ _ _;have T:=tq8 Y3 Y4 Y9 Y24 Y26 Y69 Y98 b7w;have F:=Fc.mk True.intro;apply yR [1,2];apply yRc [3] (c4n n ss x2);apply (zr);exact b0h rfl rfl (.inl rfl)
section
variable (n:Int) (ss:List TS) (fl:List TA) (hs:ss.length≤1048576) (hl:fl.length≤1048576) (hls:∀t∈fl,t.1.size≤9223372036854775807)
include n ss fl hs hl hls
theorem c7x:Con prog 88 [.pv [tQ n ss] 0 0,sQ rQa fl] [] (.bool (dsB n ss fl)) []:=by
 apply zcn [.tmp 4] [] func88 ntmps88;intro _ _ _;have T:=tq9 Y3 Y4 Y9 Y24 Y26 Y28 Y69 Y98 b7w;have F:=Fc.mk True.intro;rcases Ze (c0c n ss) with hT | hT<;>rcases Ze (b6e fl) with hF | hF
 ·skip;skip;have F:=fq2 hT hF;apply yR [1,2];apply c5h [4] (b45 n ss hs) (c0x fl hl hls) (b3n fl _ _ (fun x=> !c1m n x.2.2.1) hl (.pv _ .nil) (fun x0 x1 x2 x3 x4 _=>b5k x0 x1 x2 x3 x4 n ss));apply (zr);exact b0h rfl (by simp [dsB,hT,hF,Zb]) (.inl rfl)
 ·skip;skip;have F:=fq2 hT hF;apply yR [1,2];apply c5h [4] (b45 n ss hs) (c0x fl hl hls) (b3n fl _ _ (fun x=> !c1m n x.2.2.1) hl (.pv _ .nil) (fun x0 x1 x2 x3 x4 _=>b5k x0 x1 x2 x3 x4 n ss));apply (zr);exact b0h rfl (by simp [dsB,hT,hF,Zb]) (.inl rfl)
 ·skip;skip;have F:=fq2 hT hF;apply yR [1,2];apply c5h [4] (b45 n ss hs) (c0x fl hl hls) (b3n fl _ _ (fun x=> !c1m n x.2.2.1) hl (.pv _ .nil) (fun x0 x1 x2 x3 x4 _=>b5k x0 x1 x2 x3 x4 n ss));apply (zr);exact b0h rfl (by simp [dsB,hT,hF,Zb]) (.inl rfl)
 ·skip;skip;have F:=fq2 hT hF;apply yR [1,2];apply c5h [4] (b45 n ss hs) (c0x fl hl hls) (b3n fl _ _ (fun x=> !c1m n x.2.2.1) hl (.pv _ .nil) (fun x0 x1 x2 x3 x4 _=>b5k x0 x1 x2 x3 x4 n ss));apply (zr);exact b0h rfl (by simp [dsB,hT,hF,Zb]) (.inl rfl)
theorem f1a:Con prog 101 [tQ n ss,sQ rQa fl] [] (.bool (dsB n ss fl)) []:=by
 apply zcn [.tmp 4] [] func101 ntmps101;intro _ _ _;have T:=tq8 Y3 Y4 Y9 Y24 Y26 Y28 Y98 b7w;have F:=Fc.mk True.intro;apply yR [1,2];apply b0e;intros;apply d6n [1,2,14] (c2q n ss hs) (c0p fl hl hls);apply b0c _ rfl
 ·intro hc0;have hh:dsB n ss fl=false:=by rw [dsB];(try simp at hc0);first | (rcases hc0 with h | h<;>simp [h];done) | (simp_all;done)
  apply yR [4];apply (zr);rw [hh];exact b0h rfl rfl (.inl rfl)
 ·intro hc0;have hTF:c0c n ss=true∧b6e fl=true:=by first | exact hc0 | (simp at hc0;exact hc0)
  have htf:=b74 hTF.1;apply zn [1,2];apply b0e;intros;apply yR [2,15,16,17];apply b0g;intros;apply b05 (fun i=>⟨[(2,.ptr 0 0 0),(15,sQ rQa fl),(16,.int .i64 fl.length),(17,.int .i64 (Zf i))],[.box (tQ n ss) .shal],false,27,0⟩) (fun i=>i≤fl.length∧(fl.drop i).all (fun a=>c1m n a.2.2.1)=fl.all fun a=>c1m n a.2.2.1) (fun i=>fl.length - i) 0
  ·apply b0d [2,15,16,17] [0];rfl
  ·exact ⟨qle _,rfl⟩
  ·rintro i hok9 Q9 n9 e9 r9;obtain ⟨hi1,hR⟩:=hok9;apply yR [2,15,16,17,18];apply b0e;intros;apply b0c _ rfl
   ·intro hc1;have hlt:i < fl.length:=by omega
    obtain ⟨⟨x0,x1,x2,x3,x4⟩,hx⟩:∃x:TA,fl[i]? =some x:=⟨fl[i]'(by omega),qla (by omega)⟩;have hst:=b6h (p:=fun a=>c1m n a.2.2.1) hx;have hap:=f4h (d87 hTF.2 _ (qlb hx));simp only [] at hap;have hhb:=b6f (x:=x2) htf.1;apply zn [2,15,16,17];apply b0e;intros;apply b0g;intros;have F:=Fc.mk (gdm hx);apply yR [2,6,15,16,17];apply yR [2,15,16,17,25];apply b0c _ rfl
    ·intro hc2;apply yR [4];apply (zr);exact b0h rfl (by rw [dsB,hTF.1,hTF.2,←hR,hst,hhb,decide_eq_false (show ¬x2 < n by omega)];simp) (.inl rfl)
    ·intro hc2;apply zn [2,15,16,17];apply (yV);apply n9 _ (i+1)
     ·apply b0d [2,15,16,17] [0];rfl
     ·exact ⟨by omega,by rw [←hR,hst];simp only [];rw [hhb,decide_eq_true (show 0≤x2 by omega),decide_eq_true (show x2 < n by omega)];rfl⟩
     ·show _ < _;omega
   ·intro hc1;apply zn [];apply yR [4];apply (zr);exact b0h rfl (by rw [dsB,hTF.1,hTF.2,←hR,b8o (by omega)];rfl) (.inl rfl)
end
def c2y (c:Int→Int→Int) (x y:Int):Bool:=decide (c x y < 0)
theorem f5v (lt:Int→Int→Bool) (l:List Int):b3m lt (l.take 1)++l.drop 1=l:=by
  cases l with
  | nil=>rfl
  | cons x l=>rfl
set_option maxRecDepth 8000 in
theorem d6i (l:List Int) (g:Nat) (caps:List V) (c:Int→Int→Int) (hl:l.length≤1048576) (hc:Caps caps) (hg:∀{a b},a∈l→b∈l→Con prog g (Zc .i64 a::Zc .i64 b::caps) [] (.int .i64 (c a b)) []):Con prog 195 [.ref 0,.int .i64 0,.int .i64 l.length,.fn g caps] [.arr (l.map (Zc .i64)) .flat] (.tup []) [.arr ((b3m (c2y c) l).map (Zc .i64)) .flat]:=by
 apply zcn [] [] func195 ntmps195;intro _ _ _;have T:=tq2 Y3 Y41;have F:=Fc.mk True.intro;apply yR [0,1,2,3,8];apply b0g;intros;apply b05 (fun i=>⟨[(0,.ref 0),(1,.int .i64 0),(2,.int .i64 l.length),(3,.fn g caps),(8,.int .i64 (Zf i))],[.arr (((b3m (c2y c) (l.take i))++l.drop i).map (Zc .i64)) .flat],false,53,0⟩) (fun i=>1≤i) (fun i=>l.length - i) 1
 ·apply b4e [0,1,2,3,8] [0];rw [f5v];rfl
 ·exact qly _
 ·rintro i hok3 Q3 n3 e3 r3;have hi1:1≤i:=hok3;apply b0e;intros;apply yR [0,1,2,3,8,14];apply b0c _ rfl
  ·intro hc0;have hlt:i < l.length:=by omega
   obtain ⟨x,hx⟩:∃x,l[i]? =some x:=⟨_,qla hlt⟩;have hpl:(b3m (c2y c) (l.take i)).length=i:=by rw [d0l,qlj];omega
   have hs0:(b3m (c2y c) (l.take i))++l.drop i=(b8x (b3m (c2y c) (l.take i)) x (l.drop (i+1)) i):=by rw [d0z hx,←d6k,hpl]
   have hxm:=qlb hx;apply zn [0,1,2,3,8];apply b0e;intros;apply b0g;intros;apply yR [0,1,2,3,8,9];apply b0g;intros;apply b05 (fun j=>⟨[(0,.ref 0),(1,.int .i64 0),(2,.int .i64 l.length),(3,.fn g caps),(8,.int .i64 (Zf i)),(9,.int .i64 (Zf j))],[.arr ((b8x (b3m (c2y c) (l.take i)) x (l.drop (i+1)) j).map (Zc .i64)) .flat],false,53,0⟩) (fun j=>j≤i∧b9d (c2y c) x (b3m (c2y c) (l.take i)) j=b9d (c2y c) x (b3m (c2y c) (l.take i)) i) (fun j=>j) i
   ·apply b4e [0,1,2,3,8,9] [0];rw [hs0]
   ·exact ⟨qly _,rfl⟩
   ·rintro j hok11 Q11 n11 e11 r11;obtain ⟨hj1,hR2⟩:=hok11;have hym:=hxm;rcases ql8 j with hj00 | hj00
    ·skip;have hj0:¬((0:Int) < (j:Int)):=by omega
     apply b0e;intros;apply b0e;intro _ n13 _ _;apply b1b (by kernel_rfl);intro _ q14 k14;show b13 _ _ _ _ 17 (Array.replicate 17 false) _;have F:=fq3 hj0 @decide_false @qmo;refine zdU q14 true 0 18 ?_;refine zdU q14 true 1 19 ?_;refine b2b q14 true 2 20 ?_;refine zdU q14 true 3 21 ?_;refine b1n q14 true 4 22 ?_;refine b1n q14 true 5 23 ?_;refine b1n q14 true 6 24 ?_;refine b0u q14 true 7 25 ?_;refine b0p q14 true 8 26 ?_;refine b1n q14 true 9 27 ?_;refine b1n q14 true 10 28 ?_;refine b2s q14 true 11 29 ?_;refine b0u q14 true 12 30 ?_;refine b0p q14 true 13 31 ?_;first
     |apply g0t 14 (hg hxm hym)
     |(apply b2w 14 32 3 true rfl rfl (show 32 < 53 by decide) (by kernel_rfl) rfl;(focus first | rfl | (simp only [zV,b01,Nat.reduceEqDiff,reduceIte];done));simp only [zW,b0j,Nat.reduceEqDiff,reduceIte])
     refine b0y q14 true 15 33 ?_;refine b1s q14 true 16 34 ?_;apply b0b (by kernel_rfl);apply k14 _;apply n13 _ _ (b0a [0,1,2,3,8,9,34] _);apply (zk);apply b2a _ rfl
     ·intro hc1;exfalso;simp [hj0] at hc1
     ·intro hc1;try simp only [zC,reduceCtorEq] at hc1
      first
      |(have hend:(b8x (b3m (c2y c) (l.take i)) x (l.drop (i+1)) j)=b3m (c2y c) (l.take (i+1))++(l.drop (i+1)):=by rw [c2i hx];exact c4k (by rw [hpl,←hR2,hj00];rfl))
      |(have hend:(b8x (b3m (c2y c) (l.take i)) x (l.drop (i+1)) (m+1))=b3m (c2y c) (l.take (i+1))++(l.drop (i+1)):=by rw [c2i hx];exact c4k (by rw [hpl,←hR2,c8u hyp (by simpa [c2y,hj0] using hc1)]))
      apply zn [0,1,2,3,8];apply (yV);apply n3 _ (i+1)
      ·apply b4e [0,1,2,3,8] [0];rw [hend];rfl
      ·exact Nat.le_succ_of_le hi1
      ·show _ < _;omega
    ·skip;obtain ⟨m,rfl⟩:∃m,j=m+1:=⟨j - 1,by omega⟩;have hj0:(0:Int) < ((m+1:Nat):Int):=by omega
     obtain ⟨y,hyp⟩:∃y,(b3m (c2y c) (l.take i))[m]? =some y:=⟨_,qla (by rw [hpl];omega)⟩;have hk:(((m+1:Nat):Int) - 1).toNat=m:=by omega
     have hgx:=f5z (p:=(b3m (c2y c) (l.take i))) (r:=(l.drop (i+1))) (x:=x) (j:=m+1) (by rw [hpl];omega);have hgy:=g3b (x:=x) (r:=(l.drop (i+1))) hyp;have hil:(b8x (b3m (c2y c) (l.take i)) x (l.drop (i+1)) (m+1)).length=l.length:=by rw [f2g (by rw [hpl];omega),hpl,qmj];omega
     have hsw:=g3f (x:=x) (r:=(l.drop (i+1))) hyp;have hgz:((b8x (b3m (c2y c) (l.take i)) x (l.drop (i+1)) (m+1)).set (m+1) y)[m]? =some y:=by rw [qld (by omega)];exact hgy
     have hxm:=qlb hx;have hym:y∈l:=qlz (c4s.1 (qlb hyp));apply b0e;intros;apply b0e;intro _ n18 _ _;apply b1b (by kernel_rfl);intro _ q19 k19;show b13 _ _ _ _ 17 (Array.replicate 17 false) _;have F:=g0a hj0 @decide_true @qm0 hk (gdm hgx) (gdm hgy) (gdm hgz) hil @b47 hsw @qlr.{0};refine zdU q19 true 0 18 ?_;refine zdU q19 true 1 19 ?_;refine b2b q19 true 2 20 ?_;refine zdU q19 true 3 21 ?_;refine b1n q19 true 4 22 ?_;refine b1n q19 true 5 23 ?_;refine b1n q19 true 6 24 ?_;refine b0u q19 true 7 25 ?_;refine b0p q19 true 8 26 ?_;refine b1n q19 true 9 27 ?_;refine b1n q19 true 10 28 ?_;refine b2s q19 true 11 29 ?_;refine b0u q19 true 12 30 ?_;refine b0p q19 true 13 31 ?_;first
     |apply g0t 14 (hg hxm hym)
     |(apply b2w 14 32 3 true rfl rfl (show 32 < 53 by decide) (by kernel_rfl) rfl;(focus first | rfl | (simp only [zV,b01,Nat.reduceEqDiff,reduceIte];done));simp only [zW,b0j,Nat.reduceEqDiff,reduceIte])
     refine b0y q19 true 15 33 ?_;refine b1s q19 true 16 34 ?_;apply b0b (by kernel_rfl);apply k19 _;apply n18 _ _ (b0a [0,1,2,3,8,9,34] _);apply (zk);apply b0c _ rfl
     ·intro hc1;have hlc:c2y c x y=true:=by simpa [c2y,hj0] using hc1
      apply zn [0,1,2,3,8,9];apply b0e;intro _ n21 _ _;apply b0g;intro _ n22 _ _ _;apply b1b (by kernel_rfl);intro _ q23 k23;show b13 _ _ _ _ 18 (Array.replicate 18 false) _;refine zdU q23 true 0 37 ?_;refine zdU q23 true 1 38 ?_;refine zdU q23 false 2 39 ?_;refine zdU q23 false 3 40 ?_;refine b7u q23 false 4 41 ?_;refine zdU q23 true 5 42 ?_;refine zdU q23 true 6 43 ?_;refine b7u q23 true 7 44 ?_;refine b0z q23 true 8 45 ?_;refine b08 q23 true 9 46 ?_;refine zdU q23 true 10 47 ?_;refine zdU q23 true 11 48 ?_;refine b0z q23 true 12 49 ?_;refine b08 q23 true 13 50 ?_;refine b0z q23 true 14 51 ?_;apply b06 15;refine b0z q23 true 16 52 ?_;apply b06 17;apply b0b (by kernel_rfl);apply k23 _;apply n22 _;apply n21 _ _ (b0a [0,1,2,3,8,9] _);apply (zk);apply (yV);apply n11 _ m
      ·apply b4e [0,1,2,3,8,9] [0];rw [show ((m+1:Nat):Int) - 1=(m:Int) by omega]
      ·exact ⟨by omega,by rw [←hR2,d18 hyp hlc]⟩
      ·show m < m+1;omega
     ·intro hc1;first
      |(have hend:(b8x (b3m (c2y c) (l.take i)) x (l.drop (i+1)) j)=b3m (c2y c) (l.take (i+1))++(l.drop (i+1)):=by rw [c2i hx];exact c4k (by rw [hpl,←hR2,hj00];rfl))
      |(have hend:(b8x (b3m (c2y c) (l.take i)) x (l.drop (i+1)) (m+1))=b3m (c2y c) (l.take (i+1))++(l.drop (i+1)):=by rw [c2i hx];exact c4k (by rw [hpl,←hR2,c8u hyp (by simpa [c2y,hj0] using hc1)]))
      apply zn [0,1,2,3,8];apply (yV);apply n3 _ (i+1)
      ·apply b4e [0,1,2,3,8] [0];rw [hend];rfl
      ·exact Nat.le_succ_of_le hi1
      ·show _ < _;omega
  ·intro hc0;apply (zx);apply (zf);have hend2:b3m (c2y c) (l.take i)++l.drop i=b3m (c2y c) l:=by rw [ql3 (by omega),ql4 (by omega),qml]
   exact c2j rfl (by simp) rfl (by simp [hend2]) (by simp [Blk.kindIs]) (.inl rfl)
section
variable (l:List Int) (g:Nat) (caps:List V) (c:Int→Int→Int) (hl:l.length≤19) (hc:Caps caps) (hg:∀{a b},a∈l→b∈l→Con prog g (Zc .i64 a::Zc .i64 b::caps) [] (.int .i64 (c a b)) [])
include l g caps c hl hc hg
theorem f1p:Con prog 185 [.ref 0,.int .i64 l.length,.fn g caps] [.arr (l.map (Zc .i64)) .flat] (.tup []) [.arr ((b3m (c2y c) l).map (Zc .i64)) .flat]:=by
 apply zcn [] [(195,[0])] func185 ntmps185;intro _ _ _;have T:=tq2 Y3 Y41;have F:=Fc.mk True.intro;apply yR [0,1,2,6];apply yR [0,1,2,6,7,8];apply b0e;intros;apply b0g;intros;apply b05 (fun i=>⟨[(0,.ref 0),(1,.int .i64 l.length),(2,.fn g caps),(6,.int .i64 20),(7,.int .i64 0),(8,.int .i64 20)],[.arr (l.map (Zc .i64)) .flat],false,63,0⟩) (fun i=>True) (fun i=>0) ()
 ·refine b18 [0,1,2,6,7,8] ?_;simp only [b0r,b0k,b0i,b0f,b0n,Nat.reduceEqDiff,reduceIte];all_goals rfl
 ·trivial
 ·rintro i hok5 Q5 n5 e5 r5;have hok:True:=hok5;apply b0e;intros;apply yR [0,1,2,6,7,8,13];apply b2a _ rfl
  ·intro hc0;exfalso;simp at hc0;omega
  ·intro hc0;try simp only [zC,reduceCtorEq] at hc0
   apply zn [0,1,2,6,7];apply b1l [0,1,2,6];intro _ k9;apply (g0m);apply g2j (d6i l g caps c (by omega) hc hg);apply k9 _;apply (zk);apply b0g;intros;apply b05 (fun i=>⟨[(0,.ref 0),(1,.int .i64 l.length),(2,.fn g caps),(6,.int .i64 20)],[.arr ((b3m (c2y c) l).map (Zc .i64)) .flat],false,63,0⟩) (fun i=>True) (fun i=>0) ()
   ·refine b18 [0,1,2,6] ?_;simp only [b0r,b0k,b0i,b0f,b0n,Nat.reduceEqDiff,reduceIte];all_goals rfl
   ·trivial
   ·rintro i hok11 Q11 n11 e11 r11;have hok:True:=hok11;apply b0e;intros;apply yR [0,1,2,6,30];apply b2a _ rfl
    ·intro hc1;exfalso;simp at hc1;omega
    ·intro hc1;try simp only [zC,reduceCtorEq] at hc1
     apply (zx);apply (zf);exact c2j rfl (by simp) rfl (by simp) (by simp [Blk.kindIs]) (.inl rfl)
theorem d0y:Con prog 161 [.ref 0,.fn g caps] [.arr (l.map (Zc .i64)) .flat] (.tup []) [.arr ((b3m (c2y c) l).map (Zc .i64)) .flat]:=by
 apply zcn [] [(185,[0])] func161 ntmps161;intro _ n0 _;have T:=tq2 Y3 Y41;have F:=Fc.mk True.intro;apply b2u;intro _ k1;apply (zq2);apply (g4m);apply (zU);apply g2j (f1p l g caps c hl hc hg);apply k1 _;apply n0 _;apply (zf);exact c2j rfl (by simp) rfl (by simp) (by simp [Blk.kindIs]) (.inl rfl)
end
end Go.Proofs.YtmbbjhopngejaaaGreat
