/- What functions compute. No condition. -/
import Derived.Test.YtaefoaghpehbpaaGreatUz
import Derived.Test.YtaefoaghpehbpaaGreatUty
import Derived.Test.YtaefoaghpehbpaaGreatUmG
import Derived.Test.YtaefoaghpehbpaaGreatX6
import Derived.Test.YtaefoaghpehbpaaGreatX3
import Derived.Test.YtaefoaghpehbpaaGreatX5
import Derived.Test.YtaefoaghpehbpaaGreatX1
import Derived.Test.YtaefoaghpehbpaaGreatX4
set_option linter.unusedSimpArgs false
set_option linter.unusedVariables false
set_option linter.defProp false
namespace Go.Proofs.YtaefoaghpehbpaaGreat
open Go Go.Vm
set_option maxHeartbeats 8000000
def c5m (fl:List TA) (ts:List Int) (i:Int):Int:=match fl[i.toNat]? with | some a=>Tm.at_ ts a.2.2.1.toNat | none=>0
def b47 (fl:List TA) (ts:List Int) (i j:Int):Bool:=decide (c5m fl ts i < c5m fl ts j)
def c0l (fl:List TA) (ts:List Int) (a:TA):Bool:=b2h a && decide (0≤Tm.at_ ts a.2.2.1.toNat)
def b2c (fl:List TA) (ts:List Int):Nat→List Int
  | 0=>[]
  | m+1=>b2c fl ts m++(match fl[m]? with | some a=>if c0l fl ts a=true then [(m:Int)] else [] | none=>[])
def b8a (fl:List TA) (ts:List Int):List Int:=b2z (b47 fl ts) (b2c fl ts fl.length)
theorem c91 {fl:List TA} {ts:List Int} {m:Nat} {a:TA} (h:fl[m]? =some a):b2c fl ts (m+1)=if c0l fl ts a=true then b2c fl ts m++[(m:Int)] else b2c fl ts m:=by
  rw [b2c,h];simp only;split<;>simp
theorem b8x (fl:List TA) (ts:List Int):∀m,(b2c fl ts m).length≤m
  | 0=>Nat.le_refl _
  | m+1=>by
    have:=b8x fl ts m
    rw [b2c,List.length_append]
    split
    · split<;>simp<;>omega
    · simp;omega
theorem b8t (fl:List TA) (ts:List Int):∀m,∀i∈b2c fl ts m,∃(k:Nat) (a:TA),i=(k:Int)∧k < m∧fl[k]? =some a∧c0l fl ts a=true
  | 0,i,h=>by cases h
  | m + 1,i,h=>by
    rw [b2c,List.mem_append] at h
    rcases h with h | h
    · obtain ⟨k,a,h1,h2,h3⟩:=b8t fl ts m i h
      exact ⟨k,a,h1,by omega,h3⟩
    · split at h
      · rename_i a ha
        split at h
        · rename_i hp
          rw [List.mem_singleton] at h
          exact ⟨m,a,h,by omega,ha,hp⟩
        · cases h
      · cases h
theorem c4n {fl:List TA} {ts:List Int} {i:Int} (h:i∈b8a fl ts):∃(k:Nat) (a:TA),i=(k:Int)∧k < fl.length∧fl[k]? =some a∧c0l fl ts a=true:=b8t fl ts _ i (c6r.1 h)
theorem c4q (fl:List TA) (ts:List Int):(b8a fl ts).length≤fl.length:=by rw [b8a,c61];exact b8x ..
theorem c9g (fl:List TA) (ts:List Int):∀m,(b2c fl ts m).Pairwise (· < ·)
  | 0=>List.Pairwise.nil
  | m + 1=>by
    rw [b2c,List.pairwise_append]
    refine ⟨c9g fl ts m,?_,?_⟩
    · split
      · split
        · exact List.pairwise_singleton ..
        · exact List.Pairwise.nil
      · exact List.Pairwise.nil
    · intro a ha b hb
      obtain ⟨k,_,h1,h2,_⟩:=b8t fl ts m a ha
      split at hb
      · split at hb
        · rw [List.mem_singleton] at hb;omega
        · cases hb
      · cases hb
theorem d2i (fl:List TA) (ts:List Int):(b8a fl ts).Nodup:=by
  refine (c4b (b47 fl ts) _).symm.nodup ?_
  exact (c9g fl ts _).imp fun h=>by omega
def c5q (fl:List TA) (s:List Int×List Int) (i:Int):List Int×List Int:=
  match fl[i.toNat]? with
  | some a=>if 0 < s.1.getD a.2.1.toNat 0 then (s.1.set a.2.1.toNat (s.1.getD a.2.1.toNat 0 - 1),s.2++[i]) else s
  | none=>s
def b91 (fl:List TA) (order need:List Int):List Int×List Int:=order.foldl (c5q fl) (need,[])
theorem d14 {fl:List TA} {order need:List Int} {k:Nat} {i:Int} (h:order[k]? =some i):b91 fl (order.take (k+1)) need=c5q fl (b91 fl (order.take k) need) i:=by
  rw [b91,List.take_add_one,h,List.foldl_append];rfl
theorem b62 {fl:List TA} {need:List Int} (hn:need.length=4∧∀x∈need,0≤x∧x≤6):∀(order:List Int),(b91 fl order need).1.length=4∧(∀x∈(b91 fl order need).1,0≤x∧x≤6)∧(b91 fl order need).2.length≤order.length∧(b91 fl order need).2.Sublist order:=by
  have key : ∀ (order:List Int) (s:List Int×List Int) (o0:List Int),(s.1.length=4∧(∀x∈s.1,0≤x∧x≤6)∧s.2.Sublist o0)→((order.foldl (c5q fl) s).1.length=4∧(∀x∈(order.foldl (c5q fl) s).1,0≤x∧x≤6)∧(order.foldl (c5q fl) s).2.Sublist (o0++order)):=by
    intro order
    induction order with
    | nil=>intro s o0 h;rw [List.append_nil];exact h
    | cons i l ih=>
      intro s o0 h
      rw [List.foldl_cons]
      have h2:=ih (c5q fl s i) (o0++[i]) ?_
      · rw [List.append_assoc] at h2;exact h2
      · unfold c5q
        split
        · rename_i a ha
          split
          · rename_i hp
            refine ⟨by rw [List.length_set];exact h.1,fun x hx=> ?_,h.2.2.append (List.Sublist.refl _)⟩
            rcases List.mem_or_eq_of_mem_set hx with q | q
            · exact h.2.1 x q
            · have hk:s.1.getD a.2.1.toNat 0≤6:=by
                rw [List.getD_eq_getElem?_getD] at hp⊢
                cases hz:s.1[a.2.1.toNat]? with
                | none=>rw [hz] at hp;simp at hp
                | some z=>simpa using (h.2.1 z (List.mem_of_getElem? hz)).2
              omega
          · exact ⟨h.1,h.2.1,h.2.2.trans (List.sublist_append_left ..)⟩
        · exact ⟨h.1,h.2.1,h.2.2.trans (List.sublist_append_left ..)⟩
  intro order
  have h:=key order (need,[]) [] ⟨hn.1,hn.2,List.Sublist.refl _⟩
  rw [List.nil_append] at h
  exact ⟨h.1,h.2.1,h.2.2.length_le,h.2.2⟩
theorem b98:∀{a b c:List UInt8},Op.bytesLess a b=true→Op.bytesLess b c=true→Op.bytesLess a c=true
  | _,[],_,h,_=>by simp [Op.bytesLess] at h
  | _,_::_,[],_,h=>by simp [Op.bytesLess] at h
  | [],_::_,_::_,_,_=>rfl
  | x ::a,y::b,z::c,h,k=>by
    simp only [Op.bytesLess,Bool.or_eq_true,decide_eq_true_eq,Bool.and_eq_true,beq_iff_eq] at h k⊢
    rcases h with h | ⟨rfl,h⟩
    · rcases k with k | ⟨rfl,_⟩
      · exact .inl (UInt8.lt_trans h k)
      · exact .inl h
    · rcases k with k | ⟨rfl,k⟩
      · exact .inl k
      · exact .inr ⟨rfl,b98 h k⟩
theorem b7q {a b c:ByteArray} (h:b2f a b=true) (k:b2f b c=true):b2f a c=true:=b98 h k
theorem f3b {a b:ByteArray} (h:b2f a b=true):a≠b:=by
  intro e;subst e;rw [b79] at h;cases h
theorem c1w {α:Type} {ok:α→Bool} {bf:α→α→Bool} (tr:∀a b c,bf a b=true→bf b c=true→bf a c=true):∀{l:List α} {p:Option α},b18 ok bf p l=true→(∀q,p=some q→∀x∈l,bf q x=true)∧l.Pairwise fun x y=>bf x y=true
  | [],_,_=>⟨fun _ _ x hx=>(by cases hx),List.Pairwise.nil⟩
  | y::l,none,h=>by
    simp only [b18,Bool.and_eq_true] at h
    obtain ⟨h1,h2⟩:=c1w tr h.2
    exact ⟨fun q hq=>(by cases hq),List.pairwise_cons.2 ⟨h1 y rfl,h2⟩⟩
  | y::l,some p,h=>by
    simp only [b18,Bool.and_eq_true] at h
    obtain ⟨h1,h2⟩:=c1w tr h.2
    refine ⟨fun q hq x hx=> ?_,List.pairwise_cons.2 ⟨h1 y rfl,h2⟩⟩
    cases hq
    rcases List.mem_cons.1 hx with rfl | q
    · exact h.1.2
    · exact tr _ _ _ h.1.2 (h1 y rfl x q)
theorem d7m {α:Type} {ok:α→Bool} {bf:α→α→Bool} (tr:∀a b c,bf a b=true→bf b c=true→bf a c=true) {l:List α} (h:b1x ok bf l 0=true):l.Pairwise fun x y=>bf x y=true:=(c1w tr h).2
theorem c0m {α:Type} {ok:α→Bool} {bf:α→α→Bool}:∀{l:List α} {p:Option α},b18 ok bf p l=(b18 (fun _=>true) bf p l && l.all ok)
  | [],_=>rfl
  | y::l,none=>by
    rw [b18,b18,c0m,List.all_cons]
    cases ok y<;>cases b18 (fun _=>true) bf (some y) l<;>simp
  | y::l,some p=>by
    rw [b18,b18,c0m,List.all_cons]
    cases ok y<;>cases bf p y<;>cases b18 (fun _=>true) bf (some y) l<;>simp
theorem d5m {α:Type} {ok:α→Bool} {bf:α→α→Bool} {l:List α}:b1x ok bf l 0=(b1x (fun _=>true) bf l 0 && l.all ok):=c0m
def b5a (fl:List TA) (s:ByteArray):Int:=b20 (fun x:TA=>decide (x.1=s)) 0 fl
def b6l (order:List Int) (m:Nat):List Int:=((List.range m).map fun k:Nat=>(k:Int)).filter fun i=>decide (i∈order)
def b9v (fl:List TA) (order:List Int):Nat→List ByteArray
  | 0=>[]
  | m+1=>b9v fl order m++(match fl[m]? with | some a=>if (m:Int)∈order then [a.1] else [] | none=>[])
theorem d36 {fl:List TA} {order:List Int} {m:Nat} {a:TA} (h:fl[m]? =some a):b9v fl order (m+1)=if (m:Int)∈order then b9v fl order m++[a.1] else b9v fl order m:=by
  rw [b9v,h];simp only;split<;>simp
def nameAt (fl:List TA) (i:Int):ByteArray:=match fl[i.toNat]? with | some a=>a.1 | none=>⟨#[]⟩
theorem d0s (order:List Int) (m:Nat):b6l order (m+1)=b6l order m++(if (m:Int)∈order then [(m:Int)] else []):=by
  rw [b6l,List.range_succ,List.map_append,List.filter_append,b6l]
  congr 1
  by_cases h:(m:Int)∈order<;>simp [h]
theorem d64 (fl:List TA) (order:List Int):∀m,m≤fl.length→b9v fl order m=(b6l order m).map (nameAt fl)
  | 0,_=>rfl
  | m+1,h=>by
    have ha:fl[m]? =some fl[m]:=List.getElem?_eq_getElem (by omega)
    rw [d36 ha,d0s,List.map_append,d64 fl order m (by omega)]
    split
    · simp [nameAt,ha]
    · simp
theorem f28 {order:List Int} {m:Nat} (hn:order.Nodup) (hv:∀i∈order,∃k:Nat,i=(k:Int)∧k < m):(b6l order m).Perm order:=by
  refine (List.perm_ext_iff_of_nodup ?_ hn).2 fun i=> ?_
  · refine List.Pairwise.filter _ ?_
    exact List.Pairwise.map _ (fun a b h e=>h (by omega)) List.nodup_range
  · rw [b6l,List.mem_filter,decide_eq_true_eq]
    constructor
    · exact fun h=>h.2
    · intro h
      obtain ⟨k,hk,hm⟩:=hv i h
      exact ⟨List.mem_map.2 ⟨k,List.mem_range.2 hm,hk.symm⟩,h⟩
def dsB (n:Int) (ss:List TS) (fl:List TA):Bool:=b8o n ss && b6q fl && fl.all fun a=>c0p n a.2.2.1
theorem b81 {n:Int} {ss:List TS} (h:b8o n ss=true):(1≤n∧n≤14)∧ss.length≤40∧∀s∈ss,b6s n s=true:=by
  simp only [b8o,c30,Bool.and_eq_true,decide_eq_true_eq,Bool.not_eq_true',decide_eq_false_iff_not] at h
  exact ⟨h.1.1,by omega,d6o h.2⟩
theorem b5r {n x:Int} (h1:1≤n∧n≤14):c0p n x=(decide (0≤x) && decide (x < n)):=by
  rw [c0p,c8n (by omega) (by omega)]
  congr 1
  exact decide_eq_decide.2 (by omega)
theorem d7a {fl:List TA} (h:b6q fl=true):∀a∈fl,c49 a=true:=by
  simp only [b6q,Bool.and_eq_true] at h
  exact d6o h.1
structure DsFacts (n:Int) (ss:List TS) (fl:List TA):Prop where
  hn:1≤n∧n≤14
  hsl:ss.length≤40
  hss:∀s∈ss,b6s n s=true
  hfl:fl.length≤12
  hap:∀a∈fl,(0≤a.2.1∧a.2.1≤3)∧0≤a.2.2.1∧a.2.2.1 < n
  hinc:fl.Pairwise fun x y=>c35 x y=true
theorem d61 {n:Int} {ss:List TS} {fl:List TA} (h:dsB n ss fl=true):DsFacts n ss fl:=by
  simp only [dsB,Bool.and_eq_true,List.all_eq_true] at h
  obtain ⟨⟨h1,h2⟩,h3⟩:=h
  obtain ⟨t1,t2,t3⟩:=b81 h1
  refine ⟨t1,t2,t3,f0f h2,fun a ha=> ?_,?_⟩
  · have k1:=f08 (d7a h2 a ha)
    have k2:=h3 a ha
    rw [b5r t1] at k2
    simp only [Bool.and_eq_true,decide_eq_true_eq] at k2
    exact ⟨⟨k1.1,k1.2.1⟩,k2⟩
  · simp only [b6q,Bool.and_eq_true] at h2
    exact d7m (bf:=c35) (fun a b c h k=>b7q (show b2f a.1 b.1=true from h) (show b2f b.1 c.1=true from k)) h2.1
theorem b5m {α:Type} {p:α→Bool} {l:List α} {i:Nat} {x:α} (h:l[i]? =some x):(l.drop i).all p=(p x && (l.drop (i+1)).all p):=by
  rw [b0r h,List.all_cons]
theorem b7k {α:Type} {p:α→Bool} {l:List α} {i:Nat} (h:l.length≤i):(l.drop i).all p=true:=by
  rw [List.drop_of_length_le h];rfl
theorem c3m (x0:ByteArray) (x1:Int) (x2:Int) (x3:Int) (x4:Int) (s:ByteArray):Con Tryz.prog 143 [.agg [V.str x0,V.int .i64 x1,V.int .i64 x2,V.int .i64 x3,V.int .i64 x4],.pv [.str s] 0 0] [] (.bool (decide (x0=s))) []:=by
 refine b05 [.tmp 3] [] Tryz.func143 rfl rfl rfl (by simp [Tryz.ntmps143]) ?_
 intro Q0 n0 r0
 simp only [Tryz.ntmps143,b0l,Nat.reduceAdd]
 have T:=Tys.mk (ai Ty.t3 (ai Ty.t9 Ty.t96))
 have F:=Fc.mk True.intro
 refine yR [1,2] ⟨?_⟩;refine yR [3] ⟨?_⟩;refine zr ⟨?_⟩
 exact b0a rfl (by first | rfl | simp) (.inl rfl)
theorem c4a (fl:List TA) (s:ByteArray) (hl:fl.length≤1048576):Con Tryz.prog 68 [.sl (fl.map (fun t:TA=>V.agg [V.str t.1,V.int .i64 t.2.1,V.int .i64 t.2.2.1,V.int .i64 t.2.2.2.1,V.int .i64 t.2.2.2.2])),.str s] [] (.int .i64 (b5a fl s)) []:=by
 refine b05 [.tmp 4] [] Tryz.func68 rfl rfl rfl (by simp [Tryz.ntmps68]) ?_
 intro Q0 n0 r0
 simp only [Tryz.ntmps68,b0l,Nat.reduceAdd]
 have T:=Tys.mk (ai Ty.t3 (ai Ty.t9 (ai Ty.t32 Ty.t96)))
 have F:=Fc.mk True.intro
 refine yR [0,3] ⟨?_⟩;refine yRc [4] (b52 fl _ _ (fun x=>decide (x.1=s)) hl (.pv _ .nil) (fun x0 x1 x2 x3 x4 _=>c3m x0 x1 x2 x3 x4 s)) ⟨?_⟩;refine zr ⟨?_⟩
 exact b0a rfl rfl (.inl rfl)
theorem d9v (fl:List TA) (s:ByteArray) (hl:fl.length≤1048576):Con Tryz.prog 111 [.sl (fl.map (fun t:TA=>V.agg [V.str t.1,V.int .i64 t.2.1,V.int .i64 t.2.2.1,V.int .i64 t.2.2.2.1,V.int .i64 t.2.2.2.2])),.str s] [] (.int .i64 (b5a fl s)) []:=by
 refine b05 [.tmp 4] [] Tryz.func111 rfl rfl rfl (by simp [Tryz.ntmps111]) ?_
 intro Q0 n0 r0
 simp only [Tryz.ntmps111,b0l,Nat.reduceAdd]
 have T:=Tys.mk (ai Ty.t3 (ai Ty.t9 (ai Ty.t32 Ty.t96)))
 have F:=Fc.mk True.intro
 refine yR [0,1] ⟨?_⟩;refine b0c ?_;intros;refine yR [1,7,8,9] ⟨?_⟩;refine b0g ?_;intro Q4 n4 x4 e4 r4;refine b08 (fun i=>⟨[(1,.str s),(7,.sl (fl.map (fun t:TA=>V.agg [V.str t.1,V.int .i64 t.2.1,V.int .i64 t.2.2.1,V.int .i64 t.2.2.2.1,V.int .i64 t.2.2.2.2]))),(8,.int .i64 fl.length),(9,.int .i64 (Nat.cast i))],[],false,20,0⟩) (fun i=>i≤fl.length∧b20 (fun x:TA=>decide (x.1=s)) i (fl.drop i)=b20 (fun x:TA=>decide (x.1=s)) 0 fl) (fun i=>fl.length - i) 0 ?_ ?_ ?_
 ·refine b1a [1,7,8,9] ?_
  simp only [b0s,b0k,b0h,b0i,b0n,Nat.reduceEqDiff,reduceIte]
  rfl
 ·exact ⟨Nat.zero_le _,rfl⟩
 ·rintro i hok5 Q5 n5 e5 r5
  obtain ⟨hi1,hR⟩:=hok5
  refine yR [1,7,8,9,10] ⟨?_⟩;refine b0c ?_;intros;refine b0d _ rfl ?_ ?_
  ·intro hc0
   have hlt:i < fl.length:=by omega
   obtain ⟨⟨x0,x1,x2,x3,x4⟩,hx⟩:∃x:TA,fl[i]? =some x:=⟨fl[i]'(by omega),List.getElem?_eq_getElem (by omega)⟩
   have hst:=b54 (p:=fun x:TA=>decide (x.1=s)) hx
   refine zn [1,7,8,9] ⟨?_⟩;refine b0c ?_;intros;refine b0g ?_;intros
   have F:=Fc.mk (gdm hx)
   refine yR [1,5,6,7,8,9] ⟨?_⟩;refine yR [1,5,7,8,9,17] ⟨?_⟩;refine b0d _ rfl ?_ ?_
   ·intro hc1
    refine yR [4] ⟨?_⟩;refine zr ⟨?_⟩
    exact b0a rfl (by rw [b5a,←hR,hst,if_pos (by simpa using hc1)]) (.inl rfl)
   ·intro hc1
    refine zn [1,7,8,9] ⟨?_⟩;refine yV ⟨?_⟩;refine n5 _ (i+1) ?_ ?_ ?_
    ·refine b0b [1,7,8,9] [] ⟨?_⟩
     rfl
    ·exact ⟨by omega,by rw [←hR,hst,if_neg (by simpa using hc1)]⟩
    ·show _ < _;omega
  ·intro hc0
   refine zn [] ⟨?_⟩;refine yR [4] ⟨?_⟩;refine zr ⟨?_⟩
   exact b0a rfl (by rw [b5a,←hR,b7a (by omega)]) (.inl rfl)
theorem b4t (x0:ByteArray) (x1:Int) (x2:Int) (x3:Int) (x4:Int) (n:Int) (ss:List TS):Con Tryz.prog 197 [.agg [V.str x0,V.int .i64 x1,V.int .i64 x2,V.int .i64 x3,V.int .i64 x4],.pv [.pv [.agg [.int .i64 n,.sl (ss.map (fun t:TS=>V.agg [V.int .i64 t.1,V.int .i64 t.2.1,V.int .i64 t.2.2]))]] 0 0] 0 0] [] (.bool (!c0p n x2)) []:=by
 refine b05 [.tmp 3] [] Tryz.func197 rfl rfl rfl (by simp [Tryz.ntmps197]) ?_
 intro Q0 n0 r0
 simp only [Tryz.ntmps197,b0l,Nat.reduceAdd]
 have T:=Tys.mk (ai Ty.t3 (ai Ty.t4 (ai Ty.t9 (ai Ty.t39 (ai Ty.t41 (ai Ty.t96 (ai Ty.t108 Ty.t169)))))))
 have F:=Fc.mk True.intro
 refine yR [1,2] ⟨?_⟩;refine yRc [3] (c3n n ss x2) ⟨?_⟩;refine zr ⟨?_⟩
 exact b0a rfl rfl (.inl rfl)
theorem c5w (n:Int) (ss:List TS) (fl:List TA) (hs:ss.length≤1048576) (hl:fl.length≤1048576) (hls:∀t∈fl,t.1.size≤9223372036854775807):Con Tryz.prog 132 [.pv [.agg [.int .i64 n,.sl (ss.map (fun t:TS=>V.agg [V.int .i64 t.1,V.int .i64 t.2.1,V.int .i64 t.2.2]))]] 0 0,.sl (fl.map (fun t:TA=>V.agg [V.str t.1,V.int .i64 t.2.1,V.int .i64 t.2.2.1,V.int .i64 t.2.2.2.1,V.int .i64 t.2.2.2.2]))] [] (.bool (dsB n ss fl)) []:=by
 refine b05 [.tmp 4] [] Tryz.func132 rfl rfl rfl (by simp [Tryz.ntmps132]) ?_
 intro Q0 n0 r0
 simp only [Tryz.ntmps132,b0l,Nat.reduceAdd]
 have T:=Tys.mk (ai Ty.t3 (ai Ty.t4 (ai Ty.t9 (ai Ty.t32 (ai Ty.t39 (ai Ty.t41 (ai Ty.t96 (ai Ty.t108 Ty.t169))))))))
 have F:=Fc.mk True.intro
 rcases Bool.eq_false_or_eq_true (b8o n ss) with hT | hT<;>rcases Bool.eq_false_or_eq_true (b6q fl) with hF | hF
 ·skip
  skip
  have F:=Fc.mk (ai hT hF)
  refine yR [1,2] ⟨?_⟩;refine c7e [4] (b8p n ss hs) (b9a fl hl hls) (b3a fl _ _ (fun x=> !c0p n x.2.2.1) hl (.pv _ .nil) (fun x0 x1 x2 x3 x4 _=>b4t x0 x1 x2 x3 x4 n ss)) ⟨?_⟩;refine zr ⟨?_⟩
  exact b0a rfl (by simp [dsB,hT,hF,List.all_eq_not_any_not]) (.inl rfl)
 ·skip
  skip
  have F:=Fc.mk (ai hT hF)
  refine yR [1,2] ⟨?_⟩;refine c7e [4] (b8p n ss hs) (b9a fl hl hls) (b3a fl _ _ (fun x=> !c0p n x.2.2.1) hl (.pv _ .nil) (fun x0 x1 x2 x3 x4 _=>b4t x0 x1 x2 x3 x4 n ss)) ⟨?_⟩;refine zr ⟨?_⟩
  exact b0a rfl (by simp [dsB,hT,hF,List.all_eq_not_any_not]) (.inl rfl)
 ·skip
  skip
  have F:=Fc.mk (ai hT hF)
  refine yR [1,2] ⟨?_⟩;refine c7e [4] (b8p n ss hs) (b9a fl hl hls) (b3a fl _ _ (fun x=> !c0p n x.2.2.1) hl (.pv _ .nil) (fun x0 x1 x2 x3 x4 _=>b4t x0 x1 x2 x3 x4 n ss)) ⟨?_⟩;refine zr ⟨?_⟩
  exact b0a rfl (by simp [dsB,hT,hF,List.all_eq_not_any_not]) (.inl rfl)
 ·skip
  skip
  have F:=Fc.mk (ai hT hF)
  refine yR [1,2] ⟨?_⟩;refine c7e [4] (b8p n ss hs) (b9a fl hl hls) (b3a fl _ _ (fun x=> !c0p n x.2.2.1) hl (.pv _ .nil) (fun x0 x1 x2 x3 x4 _=>b4t x0 x1 x2 x3 x4 n ss)) ⟨?_⟩;refine zr ⟨?_⟩
  exact b0a rfl (by simp [dsB,hT,hF,List.all_eq_not_any_not]) (.inl rfl)
theorem d9d (n:Int) (ss:List TS) (fl:List TA) (hs:ss.length≤1048576) (hl:fl.length≤1048576) (hls:∀t∈fl,t.1.size≤9223372036854775807):Con Tryz.prog 119 [.agg [.int .i64 n,.sl (ss.map (fun t:TS=>V.agg [V.int .i64 t.1,V.int .i64 t.2.1,V.int .i64 t.2.2]))],.sl (fl.map (fun t:TA=>V.agg [V.str t.1,V.int .i64 t.2.1,V.int .i64 t.2.2.1,V.int .i64 t.2.2.2.1,V.int .i64 t.2.2.2.2]))] [] (.bool (dsB n ss fl)) []:=by
 refine b05 [.tmp 4] [] Tryz.func119 rfl rfl rfl (by simp [Tryz.ntmps119]) ?_
 intro Q0 n0 r0
 simp only [Tryz.ntmps119,b0l,Nat.reduceAdd]
 have T:=Tys.mk (ai Ty.t3 (ai Ty.t4 (ai Ty.t9 (ai Ty.t32 (ai Ty.t39 (ai Ty.t41 (ai Ty.t96 Ty.t169)))))))
 have F:=Fc.mk True.intro
 refine yR [1,2] ⟨?_⟩;refine b0c ?_;intros;refine f4g [1,2,14] (c87 n ss hs) (d42 fl hl hls) ⟨?_⟩;refine b0d _ rfl ?_ ?_
 ·intro hc0
  have hh:dsB n ss fl=false:=by rw [dsB];(try simp at hc0);first | (rcases hc0 with h | h<;>simp [h];done) | (simp_all;done)
  refine yR [4] ⟨?_⟩;refine zr ⟨?_⟩
  rw [hh]
  exact b0a rfl rfl (.inl rfl)
 ·intro hc0
  have hTF:b8o n ss=true∧b6q fl=true:=by first | exact hc0 | (simp at hc0;exact hc0)
  have htf:=b81 hTF.1
  refine zn [1,2] ⟨?_⟩;refine b0c ?_;intros;refine yR [2,15,16,17] ⟨?_⟩;refine b0g ?_;intros;refine b08 (fun i=>⟨[(2,.ptr 0 0 0),(15,.sl (fl.map (fun t:TA=>V.agg [V.str t.1,V.int .i64 t.2.1,V.int .i64 t.2.2.1,V.int .i64 t.2.2.2.1,V.int .i64 t.2.2.2.2]))),(16,.int .i64 fl.length),(17,.int .i64 (Nat.cast i))],[.box (.agg [.int .i64 n,.sl (ss.map (fun t:TS=>V.agg [V.int .i64 t.1,V.int .i64 t.2.1,V.int .i64 t.2.2]))]) .shal],false,27,0⟩) (fun i=>i≤fl.length∧(fl.drop i).all (fun a=>c0p n a.2.2.1)=fl.all fun a=>c0p n a.2.2.1) (fun i=>fl.length - i) 0 ?_ ?_ ?_
  ·refine b0b [2,15,16,17] [0] ⟨?_⟩
   rfl
  ·exact ⟨Nat.zero_le _,rfl⟩
  ·rintro i hok9 Q9 n9 e9 r9
   obtain ⟨hi1,hR⟩:=hok9
   refine yR [2,15,16,17,18] ⟨?_⟩;refine b0c ?_;intros;refine b0d _ rfl ?_ ?_
   ·intro hc1
    have hlt:i < fl.length:=by omega
    obtain ⟨⟨x0,x1,x2,x3,x4⟩,hx⟩:∃x:TA,fl[i]? =some x:=⟨fl[i]'(by omega),List.getElem?_eq_getElem (by omega)⟩
    have hst:=b5m (p:=fun a=>c0p n a.2.2.1) hx
    have hap:=f08 (d7a hTF.2 _ (List.mem_of_getElem? hx))
    simp only [] at hap
    have hhb:=b5r (x:=x2) htf.1
    refine zn [2,15,16,17] ⟨?_⟩;refine b0c ?_;intros;refine b0g ?_;intros
    have F:=Fc.mk (gdm hx)
    refine yR [2,6,15,16,17] ⟨?_⟩;refine yR [2,15,16,17,25] ⟨?_⟩;refine b0d _ rfl ?_ ?_
    ·intro hc2
     refine yR [4] ⟨?_⟩;refine zr ⟨?_⟩
     exact b0a rfl (by rw [dsB,hTF.1,hTF.2,←hR,hst,hhb,decide_eq_false (show ¬x2 < n by omega)];simp) (.inl rfl)
    ·intro hc2
     refine zn [2,15,16,17] ⟨?_⟩;refine yV ⟨?_⟩;refine n9 _ (i+1) ?_ ?_ ?_
     ·refine b0b [2,15,16,17] [0] ⟨?_⟩
      rfl
     ·exact ⟨by omega,by rw [←hR,hst];simp only [];rw [hhb,decide_eq_true (show 0≤x2 by omega),decide_eq_true (show x2 < n by omega)];rfl⟩
     ·show _ < _;omega
   ·intro hc1
    refine zn [] ⟨?_⟩;refine yR [4] ⟨?_⟩;refine zr ⟨?_⟩
    exact b0a rfl (by rw [dsB,hTF.1,hTF.2,←hR,b7k (by omega)];rfl) (.inl rfl)
def c1f (c:Int→Int→Int) (x y:Int):Bool:=decide (c x y < 0)
theorem f1l (lt:Int→Int→Bool) (l:List Int):b2z lt (l.take 1)++l.drop 1=l:=by
  cases l with
  | nil=>rfl
  | cons x l=>rfl
set_option maxRecDepth 8000 in
theorem d4h (l:List Int) (g:Nat) (caps:List V) (c:Int→Int→Int) (hl:l.length≤1048576) (hc:Caps caps) (hg:∀{a b},a∈l→b∈l→Con Tryz.prog g (V.int .i64 a::V.int .i64 b::caps) [] (.int .i64 (c a b)) []):Con Tryz.prog 268 [.ref 0,.int .i64 0,.int .i64 l.length,.fn g caps] [.arr (l.map (V.int .i64)) .flat] (.tup []) [.arr ((b2z (c1f c) l).map (V.int .i64)) .flat]:=by
 refine b05 [] [] Tryz.func268 rfl rfl rfl (by simp [Tryz.ntmps268]) ?_
 intro Q0 n0 r0
 simp only [Tryz.ntmps268,b0l,Nat.reduceAdd]
 have T:=Tys.mk (ai Ty.t3 Ty.t75)
 have F:=Fc.mk True.intro
 refine yR [0,1,2,3,8] ⟨?_⟩;refine b0g ?_;intros;refine b08 (fun i=>⟨[(0,.ref 0),(1,.int .i64 0),(2,.int .i64 l.length),(3,.fn g caps),(8,.int .i64 (Nat.cast i))],[.arr (((b2z (c1f c) (l.take i))++l.drop i).map (V.int .i64)) .flat],false,53,0⟩) (fun i=>1≤i) (fun i=>l.length - i) 1 ?_ ?_ ?_
 ·refine b5b [0,1,2,3,8] [0] ⟨?_⟩
  rw [f1l];rfl
 ·exact Nat.le_refl _
 ·rintro i hok3 Q3 n3 e3 r3
  have hi1:1≤i:=hok3
  refine b0c ?_;intros;refine yR [0,1,2,3,8,14] ⟨?_⟩;refine b0d _ rfl ?_ ?_
  ·intro hc0
   have hlt:i < l.length:=by omega
   obtain ⟨x,hx⟩:∃x,l[i]? =some x:=⟨_,List.getElem?_eq_getElem hlt⟩
   have hpl:(b2z (c1f c) (l.take i)).length=i:=by rw [c61,List.length_take];omega
   have hs0:(b2z (c1f c) (l.take i))++l.drop i=(b7u (b2z (c1f c) (l.take i)) x (l.drop (i+1)) i):=by rw [c84 hx,←d4j,hpl]
   have hxm:=List.mem_of_getElem? hx
   refine zn [0,1,2,3,8] ⟨?_⟩;refine b0c ?_;intros;refine b0g ?_;intros;refine yR [0,1,2,3,8,9] ⟨?_⟩;refine b0g ?_;intros;refine b08 (fun j=>⟨[(0,.ref 0),(1,.int .i64 0),(2,.int .i64 l.length),(3,.fn g caps),(8,.int .i64 (Nat.cast i)),(9,.int .i64 (Nat.cast j))],[.arr ((b7u (b2z (c1f c) (l.take i)) x (l.drop (i+1)) j).map (V.int .i64)) .flat],false,53,0⟩) (fun j=>j≤i∧b72 (c1f c) x (b2z (c1f c) (l.take i)) j=b72 (c1f c) x (b2z (c1f c) (l.take i)) i) (fun j=>j) i ?_ ?_ ?_
   ·refine b5b [0,1,2,3,8,9] [0] ⟨?_⟩
    rw [hs0]
   ·exact ⟨Nat.le_refl _,rfl⟩
   ·rintro j hok11 Q11 n11 e11 r11
    obtain ⟨hj1,hR2⟩:=hok11
    have hym:=hxm
    rcases Nat.eq_zero_or_pos j with hj00 | hj00
    ·skip
     have hj0:¬((0:Int) < (j:Int)):=by omega
     refine b0c ?_;intros;refine b0c ?_;intro Q13 n13 e13 r13;refine b1p (by kernel_rfl) ?_;intro K14 q14 k14
     show b14 _ _ _ _ 17 (Array.replicate 17 false) _
     have F:=Fc.mk (ai hj0 (ai @decide_false @Bool.and_false))
     refine b0o q14 true 0 18 ?_;refine b0o q14 true 1 19 ?_;refine b2a q14 true 2 20 ?_;refine b0o q14 true 3 21 ?_;refine b0y q14 true 4 22 ?_;refine b0y q14 true 5 23 ?_;refine b0y q14 true 6 24 ?_;refine b0x q14 true 7 25 ?_;refine b0q q14 true 8 26 ?_;refine b0y q14 true 9 27 ?_;refine b0y q14 true 10 28 ?_;refine b2e q14 true 11 29 ?_;refine b0x q14 true 12 30 ?_;refine b0q q14 true 13 31 ?_
     first
     |refine f7j 14 (hg hxm hym) ⟨?_⟩
     |(refine b2u 14 32 3 true rfl rfl (show 32 < 53 by decide) (by kernel_rfl) rfl ?_ ?_;(focus first | rfl | (simp only [zV,b1o,Nat.reduceEqDiff,reduceIte];done));simp only [zW,b0m,Nat.reduceEqDiff,reduceIte])
     refine b0z q14 true 15 33 ?_;refine b1w q14 true 16 34 ?_;refine b0j (by kernel_rfl) ?_;refine k14 _ ?_;refine n13 _ _ (b0f [0,1,2,3,8,9,34] _) ?_;refine zk ⟨?_⟩;refine b1z _ rfl ?_ ?_
     ·intro hc1
      exfalso;simp [hj0] at hc1
     ·intro hc1
      try simp only [zC,reduceCtorEq] at hc1
      first
      |(have hend:(b7u (b2z (c1f c) (l.take i)) x (l.drop (i+1)) j)=b2z (c1f c) (l.take (i+1))++(l.drop (i+1)):=by rw [c0z hx];exact c2y (by rw [hpl,←hR2,hj00];rfl))
      |(have hend:(b7u (b2z (c1f c) (l.take i)) x (l.drop (i+1)) (m+1))=b2z (c1f c) (l.take (i+1))++(l.drop (i+1)):=by rw [c0z hx];exact c2y (by rw [hpl,←hR2,c8p hyp (by simpa [c1f,hj0] using hc1)]))
      refine zn [0,1,2,3,8] ⟨?_⟩;refine yV ⟨?_⟩;refine n3 _ (i+1) ?_ ?_ ?_
      ·refine b5b [0,1,2,3,8] [0] ⟨?_⟩
       rw [hend];rfl
      ·exact Nat.le_succ_of_le hi1
      ·show _ < _;omega
    ·skip
     obtain ⟨m,rfl⟩:∃m,j=m+1:=⟨j - 1,by omega⟩
     have hj0:(0:Int) < ((m+1:Nat):Int):=by omega
     obtain ⟨y,hyp⟩:∃y,(b2z (c1f c) (l.take i))[m]? =some y:=⟨_,List.getElem?_eq_getElem (by rw [hpl];omega)⟩
     have hk:(((m+1:Nat):Int) - 1).toNat=m:=by omega
     have hgx:=f1h (p:=(b2z (c1f c) (l.take i))) (r:=(l.drop (i+1))) (x:=x) (j:=m+1) (by rw [hpl];omega)
     have hgy:=d76 (x:=x) (r:=(l.drop (i+1))) hyp
     have hil:(b7u (b2z (c1f c) (l.take i)) x (l.drop (i+1)) (m+1)).length=l.length:=by rw [f2o (by rw [hpl];omega),hpl,List.length_drop];omega
     have hsw:=d74 (x:=x) (r:=(l.drop (i+1))) hyp
     have hgz:((b7u (b2z (c1f c) (l.take i)) x (l.drop (i+1)) (m+1)).set (m+1) y)[m]? =some y:=by rw [List.getElem?_set_ne (by omega)];exact hgy
     have hxm:=List.mem_of_getElem? hx
     have hym:y∈l:=List.mem_of_mem_take (c6r.1 (List.mem_of_getElem? hyp))
     refine b0c ?_;intros;refine b0c ?_;intro Q18 n18 e18 r18;refine b1p (by kernel_rfl) ?_;intro K19 q19 k19
     show b14 _ _ _ _ 17 (Array.replicate 17 false) _
     have F:=Fc.mk (ai hj0 (ai @decide_true (ai @Bool.and_true (ai hk (ai (gdm hgx) (ai (gdm hgy) (ai (gdm hgz) (ai hil (ai @b3k (ai hsw @List.length_set.{0}))))))))))
     refine b0o q19 true 0 18 ?_;refine b0o q19 true 1 19 ?_;refine b2a q19 true 2 20 ?_;refine b0o q19 true 3 21 ?_;refine b0y q19 true 4 22 ?_;refine b0y q19 true 5 23 ?_;refine b0y q19 true 6 24 ?_;refine b0x q19 true 7 25 ?_;refine b0q q19 true 8 26 ?_;refine b0y q19 true 9 27 ?_;refine b0y q19 true 10 28 ?_;refine b2e q19 true 11 29 ?_;refine b0x q19 true 12 30 ?_;refine b0q q19 true 13 31 ?_
     first
     |refine f7j 14 (hg hxm hym) ⟨?_⟩
     |(refine b2u 14 32 3 true rfl rfl (show 32 < 53 by decide) (by kernel_rfl) rfl ?_ ?_;(focus first | rfl | (simp only [zV,b1o,Nat.reduceEqDiff,reduceIte];done));simp only [zW,b0m,Nat.reduceEqDiff,reduceIte])
     refine b0z q19 true 15 33 ?_;refine b1w q19 true 16 34 ?_;refine b0j (by kernel_rfl) ?_;refine k19 _ ?_;refine n18 _ _ (b0f [0,1,2,3,8,9,34] _) ?_;refine zk ⟨?_⟩;refine b0d _ rfl ?_ ?_
     ·intro hc1
      have hlc:c1f c x y=true:=by simpa [c1f,hj0] using hc1
      refine zn [0,1,2,3,8,9] ⟨?_⟩;refine b0c ?_;intro Q21 n21 e21 r21;refine b0g ?_;intro Q22 n22 x22 e22 r22;refine b1p (by kernel_rfl) ?_;intro K23 q23 k23
      show b14 _ _ _ _ 18 (Array.replicate 18 false) _
      refine b0o q23 true 0 37 ?_;refine b0o q23 true 1 38 ?_;refine b0o q23 false 2 39 ?_;refine b0o q23 false 3 40 ?_;refine d08 q23 false 4 41 ?_;refine b0o q23 true 5 42 ?_;refine b0o q23 true 6 43 ?_;refine d08 q23 true 7 44 ?_;refine b07 q23 true 8 45 ?_;refine b1h q23 true 9 46 ?_;refine b0o q23 true 10 47 ?_;refine b0o q23 true 11 48 ?_;refine b07 q23 true 12 49 ?_;refine b1h q23 true 13 50 ?_;refine b07 q23 true 14 51 ?_;refine b2i 15 ⟨?_⟩;refine b07 q23 true 16 52 ?_;refine b2i 17 ⟨?_⟩;refine b0j (by kernel_rfl) ?_;refine k23 _ ?_;refine n22 _ ?_;refine n21 _ _ (b0f [0,1,2,3,8,9] _) ?_;refine zk ⟨?_⟩;refine yV ⟨?_⟩;refine n11 _ m ?_ ?_ ?_
      ·refine b5b [0,1,2,3,8,9] [0] ⟨?_⟩
       rw [show ((m+1:Nat):Int) - 1=(m:Int) by omega]
      ·exact ⟨by omega,by rw [←hR2,c9y hyp hlc]⟩
      ·show m < m+1;omega
     ·intro hc1
      first
      |(have hend:(b7u (b2z (c1f c) (l.take i)) x (l.drop (i+1)) j)=b2z (c1f c) (l.take (i+1))++(l.drop (i+1)):=by rw [c0z hx];exact c2y (by rw [hpl,←hR2,hj00];rfl))
      |(have hend:(b7u (b2z (c1f c) (l.take i)) x (l.drop (i+1)) (m+1))=b2z (c1f c) (l.take (i+1))++(l.drop (i+1)):=by rw [c0z hx];exact c2y (by rw [hpl,←hR2,c8p hyp (by simpa [c1f,hj0] using hc1)]))
      refine zn [0,1,2,3,8] ⟨?_⟩;refine yV ⟨?_⟩;refine n3 _ (i+1) ?_ ?_ ?_
      ·refine b5b [0,1,2,3,8] [0] ⟨?_⟩
       rw [hend];rfl
      ·exact Nat.le_succ_of_le hi1
      ·show _ < _;omega
  ·intro hc0
   refine zx ⟨?_⟩;refine zf ⟨?_⟩
   have hend2:b2z (c1f c) (l.take i)++l.drop i=b2z (c1f c) l:=by rw [List.take_of_length_le (by omega),List.drop_of_length_le (by omega),List.append_nil]
   exact b4f rfl (by simp) rfl (by simp [hend2]) (by simp [Blk.kindIs]) (.inl rfl)
theorem d7x (l:List Int) (g:Nat) (caps:List V) (c:Int→Int→Int) (hl:l.length≤19) (hc:Caps caps) (hg:∀{a b},a∈l→b∈l→Con Tryz.prog g (V.int .i64 a::V.int .i64 b::caps) [] (.int .i64 (c a b)) []):Con Tryz.prog 259 [.ref 0,.int .i64 l.length,.fn g caps] [.arr (l.map (V.int .i64)) .flat] (.tup []) [.arr ((b2z (c1f c) l).map (V.int .i64)) .flat]:=by
 refine b05 [] [(268,[0])] Tryz.func259 rfl rfl rfl (by simp [Tryz.ntmps259]) ?_
 intro Q0 n0 r0
 simp only [Tryz.ntmps259,b0l,Nat.reduceAdd]
 have T:=Tys.mk (ai Ty.t3 Ty.t75)
 have F:=Fc.mk True.intro
 refine yR [0,1,2,6] ⟨?_⟩;refine yR [0,1,2,6,7,8] ⟨?_⟩;refine b0c ?_;intros;refine b0g ?_;intros;refine b08 (fun i=>⟨[(0,.ref 0),(1,.int .i64 l.length),(2,.fn g caps),(6,.int .i64 20),(7,.int .i64 0),(8,.int .i64 20)],[.arr (l.map (V.int .i64)) .flat],false,63,0⟩) (fun i=>True) (fun i=>0) () ?_ ?_ ?_
 ·refine b1a [0,1,2,6,7,8] ?_
  simp only [b0s,b0k,b0h,b0i,b0n,Nat.reduceEqDiff,reduceIte]
  all_goals rfl
 ·trivial
 ·rintro i hok5 Q5 n5 e5 r5
  have hok:True:=hok5
  refine b0c ?_;intros;refine yR [0,1,2,6,7,8,13] ⟨?_⟩;refine b1z _ rfl ?_ ?_
  ·intro hc0
   exfalso;simp at hc0;omega
  ·intro hc0
   try simp only [zC,reduceCtorEq] at hc0
   refine zn [0,1,2,6,7] ⟨?_⟩;refine b4y [0,1,2,6] ?_;intro K9 k9;refine zq5 ⟨?_⟩;refine zq5 ⟨?_⟩;refine f8g (d4h l g caps c (by omega) hc hg) ⟨?_⟩;refine k9 _ ?_;refine zk ⟨?_⟩;refine b0g ?_;intros;refine b08 (fun i=>⟨[(0,.ref 0),(1,.int .i64 l.length),(2,.fn g caps),(6,.int .i64 20)],[.arr ((b2z (c1f c) l).map (V.int .i64)) .flat],false,63,0⟩) (fun i=>True) (fun i=>0) () ?_ ?_ ?_
   ·refine b1a [0,1,2,6] ?_
    simp only [b0s,b0k,b0h,b0i,b0n,Nat.reduceEqDiff,reduceIte]
    all_goals rfl
   ·trivial
   ·rintro i hok11 Q11 n11 e11 r11
    have hok:True:=hok11
    refine b0c ?_;intros;refine yR [0,1,2,6,30] ⟨?_⟩;refine b1z _ rfl ?_ ?_
    ·intro hc1
     exfalso;simp at hc1;omega
    ·intro hc1
     try simp only [zC,reduceCtorEq] at hc1
     refine zx ⟨?_⟩;refine zf ⟨?_⟩
     exact b4f rfl (by simp) rfl (by simp) (by simp [Blk.kindIs]) (.inl rfl)
theorem c8y (l:List Int) (g:Nat) (caps:List V) (c:Int→Int→Int) (hl:l.length≤19) (hc:Caps caps) (hg:∀{a b},a∈l→b∈l→Con Tryz.prog g (V.int .i64 a::V.int .i64 b::caps) [] (.int .i64 (c a b)) []):Con Tryz.prog 240 [.ref 0,.fn g caps] [.arr (l.map (V.int .i64)) .flat] (.tup []) [.arr ((b2z (c1f c) l).map (V.int .i64)) .flat]:=by
 refine b05 [] [(259,[0])] Tryz.func240 rfl rfl rfl (by simp [Tryz.ntmps240]) ?_
 intro Q0 n0 r0
 simp only [Tryz.ntmps240,b0l,Nat.reduceAdd]
 have T:=Tys.mk (ai Ty.t3 Ty.t75)
 have F:=Fc.mk True.intro
 refine b4c ?_;intro K1 k1;refine zq5 ⟨?_⟩;refine f75 ⟨?_⟩;refine b6n ⟨?_⟩;refine f8g (d7x l g caps c hl hc hg) ⟨?_⟩;refine k1 _ ?_;refine n0 _ ?_;refine zf ⟨?_⟩
 exact b4f rfl (by simp) rfl (by simp) (by simp [Blk.kindIs]) (.inl rfl)
theorem f7w {l:List Int} {x:Int}:l.map (V.int .i64)++[V.int .i64 x]=(l++[x]).map (V.int .i64):=by rw [List.map_append];rfl
theorem f7a (fl:List TA) (ts:List Int):c1f (fun a b=>d88 (c5m fl ts a) (c5m fl ts b))=b47 fl ts:=by
  funext a b
  rw [c1f,b47]
  refine decide_eq_decide.2 ?_
  unfold d88
  by_cases h:c5m fl ts a < c5m fl ts b
  · simp [h]
  · simp only [h,if_false,iff_false]
    split<;>omega
def d93 (fl:List TA) (ts:List Int):List Int:=fl.map fun a=>Tm.at_ ts a.2.2.1.toNat
theorem d63 {fl:List TA} {ts:List Int} {x:TA} {w:Nat} {p:Int} (hw:x.2.2.1=(w:Int)) (hp:ts[w]? =some p):c0l fl ts x=(b2h x && decide (0≤p)):=by
  rw [c0l,hw,Int.toNat_natCast,Tm.at_get hp]
theorem c6u {fl:List TA} {ts:List Int} {k:Nat} {x:TA} {w:Nat} {p:Int} (hx:fl[k]? =some x) (hw:x.2.2.1=(w:Int)) (hp:ts[w]? =some p):c5m fl ts (k:Int)=p:=by
  rw [c5m,Int.toNat_natCast,hx]
  simp only [hw,Int.toNat_natCast,Tm.at_get hp]
set_option maxRecDepth 8000 in
theorem c7j (fl:List TA) (ts:List Int) (a b:Int) (ha:∃(k:Nat) (x:TA) (w:Nat),a=(k:Int)∧fl[k]? =some x∧x.2.2.1=(w:Int)∧w < ts.length) (hb:∃(k:Nat) (x:TA) (w:Nat),b=(k:Int)∧fl[k]? =some x∧x.2.2.1=(w:Int)∧w < ts.length):Con Tryz.prog 241 [.int .i64 a,.int .i64 b,.pv [.sl (ts.map (V.int .i64))] 0 0,.pv [.sl (fl.map (fun t:TA=>V.agg [V.str t.1,V.int .i64 t.2.1,V.int .i64 t.2.2.1,V.int .i64 t.2.2.2.1,V.int .i64 t.2.2.2.2]))] 0 0] [] (.int .i64 (d88 (c5m fl ts a) (c5m fl ts b))) []:=by
 obtain ⟨k1,⟨x0,x1,x2,x3,x4⟩,u,rfl,hx,haw,hal⟩:=ha
 simp only [] at haw
 subst haw
 obtain ⟨p,hp⟩:∃p,ts[u]? =some p:=⟨_,List.getElem?_eq_getElem hal⟩
 have hk1l:k1 < fl.length:=(List.getElem?_eq_some_iff.1 hx).1
 have ek1:=c6u (ts:=ts) hx rfl hp
 obtain ⟨k2,⟨y0,y1,y2,y3,y4⟩,v,rfl,hy,hbw,hbl⟩:=hb
 simp only [] at hbw
 subst hbw
 obtain ⟨q,hq⟩:∃p,ts[v]? =some p:=⟨_,List.getElem?_eq_getElem hbl⟩
 have hk2l:k2 < fl.length:=(List.getElem?_eq_some_iff.1 hy).1
 have ek2:=c6u (ts:=ts) hy rfl hq
 rw [ek1,ek2]
 refine b05 [.tmp 6] [] Tryz.func241 rfl rfl rfl (by simp [Tryz.ntmps241]) ?_
 intro Q0 n0 r0
 simp only [Tryz.ntmps241,b0l,Nat.reduceAdd]
 have T:=Tys.mk (ai Ty.t3 (ai Ty.t9 (ai Ty.t32 (ai Ty.t75 Ty.t96))))
 have F:=Fc.mk True.intro
 have F:=Fc.mk (ai (gdm hx) (ai (gdm hy) (ai (gdm hp) (gdm hq))))
 refine yR [0,1,2,3] ⟨?_⟩;refine b0c ?_;intro Q2 n2 e2 r2;refine b1p (by kernel_rfl) ?_;intro K3 q3 k3
 show b14 _ _ _ _ 18 (Array.replicate 18 false) _
 refine b1h q3 true 0 7 ?_;refine b1h q3 true 1 8 ?_;refine b0o q3 true 2 9 ?_;refine b07 q3 true 3 10 ?_;refine b0p q3 true 4 11 ?_;refine b1h q3 true 5 12 ?_;refine b07 q3 true 6 13 ?_;refine b1h q3 true 7 14 ?_;refine b1h q3 true 8 15 ?_;refine b1h q3 true 9 16 ?_;refine b0o q3 true 10 17 ?_;refine b07 q3 true 11 18 ?_;refine b0p q3 true 12 19 ?_;refine b1h q3 true 13 20 ?_;refine b07 q3 true 14 21 ?_;refine b1h q3 true 15 22 ?_;refine zoc 16 (c31 p q) ⟨?_⟩;refine b0t 17 ⟨?_⟩;refine b0j (by kernel_rfl) ?_;refine k3 _ ?_;refine n2 _ _ (b0f [6] _) ?_;refine zq1 ⟨?_⟩
 exact b0a rfl rfl (.inl rfl)
set_option maxRecDepth 8000 in
theorem readyOrder_con (n:Int) (ss:List TS) (fl:List TA) (node:Int) (hd:DsFacts n ss fl) (hu:0≤node∧node < n):Con Tryz.prog 212 [.pv [.agg [.int .i64 n,.sl (ss.map (fun t:TS=>V.agg [V.int .i64 t.1,V.int .i64 t.2.1,V.int .i64 t.2.2]))]] 0 0,.sl (fl.map (fun t:TA=>V.agg [V.str t.1,V.int .i64 t.2.1,V.int .i64 t.2.2.1,V.int .i64 t.2.2.2.1,V.int .i64 t.2.2.2.2])),.int .i64 node] [] (.ref 0) [.arr ((b8a fl (tmL n ss node)).map (V.int .i64)) .flat]:=by
 have hfl:=hd.hfl
 obtain ⟨ts,hts⟩:∃ts,ts=tmL n ss node:=⟨_,rfl⟩
 have htl:ts.length=n.toNat:=by rw [hts,c21]
 have htb:=c58 hd.hn hu hd.hss hd.hsl
 rw [←hts] at htb⊢
 have hn14:=hd.hn
 have hvalid:∀{a:Int},a∈b2c fl ts fl.length→∃(k:Nat) (x:TA) (w:Nat),a=(k:Int)∧fl[k]? =some x∧x.2.2.1=(w:Int)∧w < ts.length:=by
  intro a ha
  obtain ⟨k,x,h1,h2,h3,_⟩:=b8t fl ts _ a ha
  have hap:=hd.hap _ (List.mem_of_getElem? h3)
  obtain ⟨w,hw⟩:=Int.eq_ofNat_of_zero_le hap.2.1
  exact ⟨k,x,w,h1,h3,hw,by rw [htl];omega⟩
 have hrl:=b8x fl ts fl.length
 refine b05 [.tmp 6] [(240,[0])] Tryz.func212 rfl rfl rfl (by simp [Tryz.ntmps212]) ?_
 intro Q0 n0 r0
 simp only [Tryz.ntmps212,b0l,Nat.reduceAdd]
 have T:=Tys.mk (ai Ty.t3 (ai Ty.t4 (ai Ty.t9 (ai Ty.t32 (ai Ty.t39 (ai Ty.t41 (ai Ty.t75 (ai Ty.t96 (ai Ty.t108 Ty.t169)))))))))
 have F:=Fc.mk True.intro
 refine yR [0,2,4] ⟨?_⟩;refine b0c ?_;intro Q2 n2 e2 r2;refine yVc ((hts ▸ d81 n ss node hd.hn hu hd.hss hd.hsl:Con _ _ _ _ _ [.arr (ts.map (V.int .i64)) .flat])) ⟨?_⟩
 apply n2
 ·apply b1i (b0f [4,7] _)
  simp only [b0s,b0k,b0h,b0i,b0n,Nat.reduceEqDiff,reduceIte]
  exact b1i (d4q 4 2 (ts.map (V.int .i64)) .flat rfl rfl (.inl rfl) (by decide)) d12
 try simp only [b1r,b1y,Nat.reduceEqDiff,reduceIte,List.set_cons_zero,List.set_cons_succ]
 refine yR [4,7,8] ⟨?_⟩;refine b0c ?_;intros;refine yR [4,7,8,14,15,16] ⟨?_⟩;refine b0g ?_;intros;refine b08 (fun i=>⟨[(4,.ptr 0 0 0),(7,.ptr 1 0 0),(8,.ref 2),(14,.sl (fl.map (fun t:TA=>V.agg [V.str t.1,V.int .i64 t.2.1,V.int .i64 t.2.2.1,V.int .i64 t.2.2.2.1,V.int .i64 t.2.2.2.2]))),(15,.int .i64 fl.length),(16,.int .i64 (Nat.cast i))],[.box (.sl (fl.map (fun t:TA=>V.agg [V.str t.1,V.int .i64 t.2.1,V.int .i64 t.2.2.1,V.int .i64 t.2.2.2.1,V.int .i64 t.2.2.2.2]))) .shal,.box (.sl (ts.map (V.int .i64))) .deep,.arr ((b2c fl ts i).map (V.int .i64)) .flat],true,40,0⟩) (fun i=>i≤fl.length) (fun i=>fl.length - i) 0 ?_ ?_ ?_
 ·refine b0b [4,7,8,14,15,16] [0,4,5] ⟨?_⟩
  rfl
 ·exact Nat.zero_le _
 ·rintro i hok8 Q8 n8 e8 r8
  have hi1:i≤fl.length:=hok8
  refine yR [4,7,8,14,15,16,17] ⟨?_⟩;refine b0c ?_;intros;refine b0d _ rfl ?_ ?_
  ·intro hc0
   have hlt:i < fl.length:=by omega
   obtain ⟨⟨x0,x1,x2,x3,x4⟩,hx⟩:∃x:TA,fl[i]? =some x:=⟨fl[i]'(by omega),List.getElem?_eq_getElem (by omega)⟩
   have hap:=hd.hap _ (List.mem_of_getElem? hx)
   simp only [] at hap
   obtain ⟨w,hw⟩:=Int.eq_ofNat_of_zero_le hap.2.1
   subst hw
   obtain ⟨p,hp⟩:∃p,ts[w]? =some p:=⟨_,List.getElem?_eq_getElem (by rw [htl];omega)⟩
   have hwl:w < ts.length:=by rw [htl];omega
   have hpb:=htb w
   rw [Tm.at_get hp] at hpb
   have hrp:=d63 (fl:=fl) (x:=(x0,x1,(w:Int),x3,x4)) rfl hp
   have hst:=c91 (ts:=ts) hx
   have hrl2:=b8x fl ts i
   have hki:=c6u (ts:=ts) hx rfl hp
   refine zn [4,7,8,14,15,16] ⟨?_⟩;refine b0c ?_;intros;refine b0g ?_;intros
   have F:=Fc.mk (ai (gdm hx) (gdm hp))
   refine yR [4,7,8,9,10,14,15,16] ⟨?_⟩;refine yRc [4,7,8,9,14,15,16,30] (c6n x0 x1 (w:Int) x3 x4 hap.1) ⟨?_⟩;refine b0d _ rfl ?_ ?_
   ·intro hc1
    have hr1:c0l fl ts (x0,x1,(w:Int),x3,x4)=true:=by rw [hrp];simpa using hc1
    refine yQ [4,7,8,14,15,16] ⟨?_⟩;refine yV ⟨?_⟩;refine n8 _ (i+1) ?_ ?_ ?_
    ·refine b0b [4,7,8,14,15,16] [0,1,5] ⟨?_⟩
     rw [hst,if_pos hr1,List.map_append];rfl
    ·exact hlt
    ·show _ < _;omega
   ·intro hc1
    have hr1:¬c0l fl ts (x0,x1,(w:Int),x3,x4)=true:=by rw [hrp];simpa using hc1
    refine zn [4,7,8,14,15,16] ⟨?_⟩;refine yV ⟨?_⟩;refine n8 _ (i+1) ?_ ?_ ?_
    ·refine b0b [4,7,8,14,15,16] [0,1,2] ⟨?_⟩
     rw [hst,if_neg hr1];rfl
    ·exact hlt
    ·show _ < _;omega
  ·intro hc0
   have hend:i=fl.length:=by omega
   subst hend
   refine zn [4,7,8] ⟨?_⟩;refine yRl [8] (c8y (b2c fl ts fl.length) _ _ (fun a b=>d88 (c5m fl ts a) (c5m fl ts b)) (by omega) (.pv _ (.pv _ .nil)) (fun ha hb=>c7j fl ts _ _ (hvalid ha) (hvalid hb))) ⟨?_⟩;refine yR [6] ⟨?_⟩;refine zr ⟨?_⟩
   exact b1t rfl rfl (by rw [f7a];rfl)
end Go.Proofs.YtaefoaghpehbpaaGreat
