/- What functions compute. No condition. -/
import Derived.Test.YtmbbjhopngejaaaGreatDoorX6
set_option linter.unusedSimpArgs false
set_option linter.unusedVariables false
set_option linter.defProp false
namespace Go.Proofs.YtmbbjhopngejaaaGreatDoor
open Go Go.Vm
set_option maxHeartbeats 8000000
def f5x (fl:List TA) (ts:List Int) (i:Int):Int:=match fl[i.toNat]? with | some a=>Tm.at_ ts a.2.2.1.toNat | none=>0
def b6m (fl:List TA) (ts:List Int) (i j:Int):Bool:=decide (f5x fl ts i < f5x fl ts j)
def c3m (fl:List TA) (ts:List Int) (a:TA):Bool:=b2k a && decide (0≤Tm.at_ ts a.2.2.1.toNat)
def b20 (fl:List TA) (ts:List Int):Nat→List Int
  | 0=>[]
  | m+1=>b20 fl ts m++(match fl[m]? with | some a=>if c3m fl ts a=true then [(m:Int)] else [] | none=>[])
def c2f (fl:List TA) (ts:List Int):List Int:=b6t (b6m fl ts) (b20 fl ts fl.length)
theorem d9k {fl:List TA} {ts:List Int} {m:Nat} {a:TA} (h:fl[m]? =some a):b20 fl ts (m+1)=if c3m fl ts a=true then b20 fl ts m++[(m:Int)] else b20 fl ts m:=by
  rw [b20,h];simp only;split<;>simp
theorem c23 (fl:List TA) (ts:List Int):∀m,(b20 fl ts m).length≤m
  | 0=>qlw _
  | m+1=>by
    have:=c23 fl ts m;rw [b20,qls];split
    · split<;>simp<;>omega
    · simp;omega
theorem c3v (fl:List TA) (ts:List Int):∀m,∀i∈b20 fl ts m,∃(k:Nat) (a:TA),i=(k:Int)∧k < m∧fl[k]? =some a∧c3m fl ts a=true
  | 0,i,h=>by cases h
  | m + 1,i,h=>by
    rw [b20,qlj] at h;rcases h with h | h
    · obtain ⟨k,a,h1,h2,h3⟩:=c3v fl ts m i h
      exact ⟨k,a,h1,by omega,h3⟩
    · split at h
      · rename_i a ha
        split at h
        · rename_i hp
          rw [qlk] at h;exact ⟨m,a,h,by omega,ha,hp⟩
        · cases h
      · cases h
theorem d0j {fl:List TA} {ts:List Int} {i:Int} (h:i∈c2f fl ts):∃(k:Nat) (a:TA),i=(k:Int)∧k < fl.length∧fl[k]? =some a∧c3m fl ts a=true:=c3v fl ts _ i (d4n.1 h)
theorem d0c (fl:List TA) (ts:List Int):(c2f fl ts).length≤fl.length:=by rw [c2f,d4d];exact c23 ..
def d10 (fl:List TA) (s:List Int×List Int) (i:Int):List Int×List Int:=
  match fl[i.toNat]? with
  | some a=>if 0 < s.1.getD a.2.1.toNat 0 then (s.1.set a.2.1.toNat (s.1.getD a.2.1.toNat 0 - 1),s.2++[i]) else s
  | none=>s
def c6f (fl:List TA) (order need:List Int):List Int×List Int:=order.foldl (d10 fl) (need,[])
theorem f08 {fl:List TA} {order need:List Int} {k:Nat} {i:Int} (h:order[k]? =some i):c6f fl (order.take (k+1)) need=d10 fl (c6f fl (order.take k) need) i:=by
  rw [c6f,ql2,h,List.foldl_append];rfl
theorem c1t {fl:List TA} {need:List Int} (hn:need.length=4∧∀x∈need,0≤x∧x≤6):∀(order:List Int),(c6f fl order need).1.length=4∧(∀x∈(c6f fl order need).1,0≤x∧x≤6)∧(c6f fl order need).2.length≤order.length∧(c6f fl order need).2.Sublist order:=by
  have key : ∀ (order:List Int) (s:List Int×List Int) (o0:List Int),(s.1.length=4∧(∀x∈s.1,0≤x∧x≤6)∧s.2.Sublist o0)→((order.foldl (d10 fl) s).1.length=4∧(∀x∈(order.foldl (d10 fl) s).1,0≤x∧x≤6)∧(order.foldl (d10 fl) s).2.Sublist (o0++order)):=by
    intro order
    induction order with
    | nil=>intro s o0 h;rw [List.append_nil];exact h
    | cons i l ih=>
      intro s o0 h;rw [List.foldl_cons];have h2:=ih (d10 fl s i) (o0++[i]) ?_
      · rw [ql9] at h2;exact h2
      · unfold d10
        split
        · rename_i a ha
          split
          · rename_i hp
            refine ⟨by rw [qlp];exact h.1,fun x hx=> ?_,h.2.2.append (List.Sublist.refl _)⟩;rcases List.mem_or_eq_of_mem_set hx with q | q
            · exact h.2.1 x q
            · have hk:s.1.getD a.2.1.toNat 0≤6:=by
                rw [qlm] at hp⊢;cases hz:s.1[a.2.1.toNat]? with
                | none=>rw [hz] at hp;simp at hp
                | some z=>simpa using (h.2.1 z (qlb hz)).2
              omega
          · exact ⟨h.1,h.2.1,h.2.2.trans (List.sublist_append_left ..)⟩
        · exact ⟨h.1,h.2.1,h.2.2.trans (List.sublist_append_left ..)⟩
  intro order;have h:=key order (need,[]) [] ⟨hn.1,hn.2,List.Sublist.refl _⟩;rw [List.nil_append] at h;exact ⟨h.1,h.2.1,h.2.2.length_le,h.2.2⟩
theorem c0t:∀{a b c:List UInt8},Op.bytesLess a b=true→Op.bytesLess b c=true→Op.bytesLess a c=true
  | _,[],_,h,_=>by simp [Op.bytesLess] at h
  | _,_::_,[],_,h=>by simp [Op.bytesLess] at h
  | [],_::_,_::_,_,_=>rfl
  | x ::a,y::b,z::c,h,k=>by
    simp only [Op.bytesLess,Bool.or_eq_true,decide_eq_true_eq,Bool.and_eq_true,beq_iff_eq] at h k⊢;rcases h with h | ⟨rfl,h⟩
    · rcases k with k | ⟨rfl,_⟩
      · exact .inl (UInt8.lt_trans h k)
      · exact .inl h
    · rcases k with k | ⟨rfl,k⟩
      · exact .inl k
      · exact .inr ⟨rfl,c0t h k⟩
theorem b8g {a b c:ByteArray} (h:b2x a b=true) (k:b2x b c=true):b2x a c=true:=c0t h k
theorem f5g {a b:ByteArray} (h:b2x a b=true):a≠b:=by
  intro e;subst e;rw [b81] at h;cases h
theorem c2p {α:Type} {ok:α→Bool} {bf:α→α→Bool} (tr:∀a b c,bf a b=true→bf b c=true→bf a c=true):∀{l:List α} {p:Option α},b2i ok bf p l=true→(∀q,p=some q→∀x∈l,bf q x=true)∧l.Pairwise fun x y=>bf x y=true
  | [],_,_=>⟨fun _ _ x hx=>(by cases hx),List.Pairwise.nil⟩
  | y::l,none,h=>by
    simp only [b2i,Bool.and_eq_true] at h;obtain ⟨h1,h2⟩:=c2p tr h.2;exact ⟨fun q hq=>(by cases hq),List.pairwise_cons.2 ⟨h1 y rfl,h2⟩⟩
  | y::l,some p,h=>by
    simp only [b2i,Bool.and_eq_true] at h;obtain ⟨h1,h2⟩:=c2p tr h.2;refine ⟨fun q hq x hx=> ?_,List.pairwise_cons.2 ⟨h1 y rfl,h2⟩⟩;cases hq;rcases qlt.1 hx with rfl | q
    · exact h.1.2
    · exact tr _ _ _ h.1.2 (h1 y rfl x q)
theorem d80 {α:Type} {ok:α→Bool} {bf:α→α→Bool} (tr:∀a b c,bf a b=true→bf b c=true→bf a c=true) {l:List α} (h:b1v ok bf l 0=true):l.Pairwise fun x y=>bf x y=true:=(c2p tr h).2
theorem c1d {α:Type} {ok:α→Bool} {bf:α→α→Bool}:∀{l:List α} {p:Option α},b2i ok bf p l=(b2i (fun _=>true) bf p l && l.all ok)
  | [],_=>rfl
  | y::l,none=>by
    rw [b2i,b2i,c1d,List.all_cons];cases ok y<;>cases b2i (fun _=>true) bf (some y) l<;>simp
  | y::l,some p=>by
    rw [b2i,b2i,c1d,List.all_cons];cases ok y<;>cases bf p y<;>cases b2i (fun _=>true) bf (some y) l<;>simp
theorem d63 {α:Type} {ok:α→Bool} {bf:α→α→Bool} {l:List α}:b1v ok bf l 0=(b1v (fun _=>true) bf l 0 && l.all ok):=c1d
def b3o (fl:List TA) (s:ByteArray):Int:=b3b (fun x:TA=>decide (x.1=s)) 0 fl
def c0y (order:List Int) (m:Nat):List Int:=((List.range m).map fun k:Nat=>(k:Int)).filter fun i=>decide (i∈order)
def c0j (fl:List TA) (order:List Int):Nat→List ByteArray
  | 0=>[]
  | m+1=>c0j fl order m++(match fl[m]? with | some a=>if (m:Int)∈order then [a.1] else [] | none=>[])
theorem d3b {fl:List TA} {order:List Int} {m:Nat} {a:TA} (h:fl[m]? =some a):c0j fl order (m+1)=if (m:Int)∈order then c0j fl order m++[a.1] else c0j fl order m:=by
  rw [c0j,h];simp only;split<;>simp
def nameAt (fl:List TA) (i:Int):ByteArray:=match fl[i.toNat]? with | some a=>a.1 | none=>⟨#[]⟩
theorem d75 (order:List Int) (m:Nat):c0y order (m+1)=c0y order m++(if (m:Int)∈order then [(m:Int)] else []):=by
  rw [c0y,List.range_succ,List.map_append,List.filter_append,c0y]
  congr 1
  by_cases h:(m:Int)∈order<;>simp [h]
theorem d7p (fl:List TA) (order:List Int):∀m,m≤fl.length→c0j fl order m=(c0y order m).map (nameAt fl)
  | 0,_=>rfl
  | m+1,h=>by
    have ha:fl[m]? =some fl[m]:=qla (by omega);rw [d3b ha,d75,List.map_append,d7p fl order m (by omega)];split
    · simp [nameAt,ha]
    · simp
def dsB (n:Int) (ss:List TS) (fl:List TA):Bool:=b9g n ss && b4x fl && fl.all fun a=>c2e n a.2.2.1
theorem b7z {n:Int} {ss:List TS} (h:b9g n ss=true):(1≤n∧n≤14)∧ss.length≤40∧∀s∈ss,b7p n s=true:=by
  simp only [b9g,c4w,Bool.and_eq_true,decide_eq_true_eq,Bool.not_eq_true',decide_eq_false_iff_not] at h;exact ⟨h.1.1,by omega,d1y h.2⟩
theorem b6d {n x:Int} (h1:1≤n∧n≤14):c2e n x=(decide (0≤x) && decide (x < n)):=by
  rw [c2e,c4c (by omega) (by omega)]
  congr 1
  exact decide_eq_decide.2 (by omega)
theorem d1l {fl:List TA} (h:b4x fl=true):∀a∈fl,c0r a=true:=by
  simp only [b4x,Bool.and_eq_true] at h;exact d1y h.1
structure DsFacts (n:Int) (ss:List TS) (fl:List TA):Prop where
  hn:1≤n∧n≤14
  hsl:ss.length≤40
  hss:∀s∈ss,b7p n s=true
  hfl:fl.length≤12
  hap:∀a∈fl,(0≤a.2.1∧a.2.1≤3)∧0≤a.2.2.1∧a.2.2.1 < n
  hinc:fl.Pairwise fun x y=>c4h x y=true
theorem d71 {n:Int} {ss:List TS} {fl:List TA} (h:dsB n ss fl=true):DsFacts n ss fl:=by
  simp only [dsB,Bool.and_eq_true,List.all_eq_true] at h;obtain ⟨⟨h1,h2⟩,h3⟩:=h;obtain ⟨t1,t2,t3⟩:=b7z h1;refine ⟨t1,t2,t3,f04 h2,fun a ha=> ?_,?_⟩
  · have k1:=f3e (d1l h2 a ha)
    have k2:=h3 a ha;rw [b6d t1] at k2;simp only [Bool.and_eq_true,decide_eq_true_eq] at k2;exact ⟨⟨k1.1,k1.2.1⟩,k2⟩
  · simp only [b4x,Bool.and_eq_true] at h2
    exact d80 (bf:=c4h) (fun a b c h k=>b8g (show b2x a.1 b.1=true from h) (show b2x b.1 c.1=true from k)) h2.1
theorem b65 {α:Type} {p:α→Bool} {l:List α} {i:Nat} {x:α} (h:l[i]? =some x):(l.drop i).all p=(p x && (l.drop (i+1)).all p):=by
  rw [b1h h,List.all_cons]
theorem b9c {α:Type} {p:α→Bool} {l:List α} {i:Nat} (h:l.length≤i):(l.drop i).all p=true:=by
  rw [ql5 h];rfl
theorem c3e (x0:ByteArray) (x1:Int) (x2:Int) (x3:Int) (x4:Int) (s:ByteArray):Con Tryz.prog 142 [.agg [V.str x0,V.int .i64 x1,V.int .i64 x2,V.int .i64 x3,V.int .i64 x4],.pv [.str s] 0 0] [] (.bool (decide (x0=s))) []:=by
 refine zcn [.tmp 3] [] Tryz.func142 Tryz.ntmps142 ⟨?_⟩;intro Q0 n0 r0;have T:=tq3 Ty.t3 Ty.t9 Ty.t53;have F:=Fc.mk True.intro;refine yR [1,2] ⟨?_⟩;refine yR [3] ⟨?_⟩;refine zr ⟨?_⟩;exact b0g rfl (by first | rfl | simp) (.inl rfl)
theorem b3y (fl:List TA) (s:ByteArray) (hl:fl.length≤1048576):Con Tryz.prog 96 [sQ rQa fl,.str s] [] (.int .i64 (b3o fl s)) []:=by
 refine zcn [.tmp 4] [] Tryz.func96 Tryz.ntmps96 ⟨?_⟩;intro Q0 n0 r0;have T:=tq4 Ty.t3 Ty.t9 Ty.t27 Ty.t53;have F:=Fc.mk True.intro;refine yR [0,3] ⟨?_⟩;refine yRc [4] (b6q fl _ _ (fun x=>decide (x.1=s)) hl (.pv _ .nil) (fun x0 x1 x2 x3 x4 _=>c3e x0 x1 x2 x3 x4 s)) ⟨?_⟩;refine zr ⟨?_⟩;exact b0g rfl rfl (.inl rfl)
theorem b5e (fl:List TA) (s:ByteArray) (hl:fl.length≤1048576):Con Tryz.prog 50 [sQ rQa fl,.str s] [] (.int .i64 (b3o fl s)) []:=by
 refine zcn [.tmp 4] [] Tryz.func50 Tryz.ntmps50 ⟨?_⟩;intro Q0 n0 r0;have T:=tq4 Ty.t3 Ty.t9 Ty.t27 Ty.t53;have F:=Fc.mk True.intro;refine yR [0,1] ⟨?_⟩;refine b0e ?_;intros;refine yR [1,7,8,9] ⟨?_⟩;refine b0i ?_;intro Q4 n4 x4 e4 r4;refine b08 (fun i=>⟨[(1,.str s),(7,sQ rQa fl),(8,.int .i64 fl.length),(9,.int .i64 (Nat.cast i))],[],false,20,0⟩) (fun i=>i≤fl.length∧b3b (fun x:TA=>decide (x.1=s)) i (fl.drop i)=b3b (fun x:TA=>decide (x.1=s)) 0 fl) (fun i=>fl.length - i) 0 ?_ ?_ ?_
 ·refine b2a [1,7,8,9] ?_;simp only [b02,b0n,b0l,b0j,b0u,Nat.reduceEqDiff,reduceIte];rfl
 ·exact ⟨qle _,rfl⟩
 ·rintro i hok5 Q5 n5 e5 r5;obtain ⟨hi1,hR⟩:=hok5;refine yR [1,7,8,9,10] ⟨?_⟩;refine b0e ?_;intros;refine b0a _ rfl ?_ ?_
  ·intro hc0;have hlt:i < fl.length:=by omega
   obtain ⟨⟨x0,x1,x2,x3,x4⟩,hx⟩:∃x:TA,fl[i]? =some x:=⟨fl[i]'(by omega),qla (by omega)⟩;have hst:=b50 (p:=fun x:TA=>decide (x.1=s)) hx;refine zn [1,7,8,9] ⟨?_⟩;refine b0e ?_;intros;refine b0i ?_;intros;have F:=Fc.mk (gdm hx);refine yR [1,5,6,7,8,9] ⟨?_⟩;refine yR [1,5,7,8,9,17] ⟨?_⟩;refine b0a _ rfl ?_ ?_
   ·intro hc1;refine yR [4] ⟨?_⟩;refine zr ⟨?_⟩;exact b0g rfl (by rw [b3o,←hR,hst,if_pos (by simpa using hc1)]) (.inl rfl)
   ·intro hc1;refine zn [1,7,8,9] ⟨?_⟩;refine yV ⟨?_⟩;refine n5 _ (i+1) ?_ ?_ ?_
    ·refine b0d [1,7,8,9] [] ⟨?_⟩;rfl
    ·exact ⟨by omega,by rw [←hR,hst,if_neg (by simpa using hc1)]⟩
    ·show _ < _;omega
  ·intro hc0;refine zn [] ⟨?_⟩;refine yR [4] ⟨?_⟩;refine zr ⟨?_⟩;exact b0g rfl (by rw [b3o,←hR,b7h (by omega)]) (.inl rfl)
theorem b5g (x0:ByteArray) (x1:Int) (x2:Int) (x3:Int) (x4:Int) (n:Int) (ss:List TS):Con Tryz.prog 128 [.agg [V.str x0,V.int .i64 x1,V.int .i64 x2,V.int .i64 x3,V.int .i64 x4],.pv [.pv [tQ n ss] 0 0] 0 0] [] (.bool (!c2e n x2)) []:=by
 refine zcn [.tmp 3] [] Tryz.func128 Tryz.ntmps128 ⟨?_⟩;intro Q0 n0 r0;have T:=tq8 Ty.t3 Ty.t4 Ty.t9 Ty.t24 Ty.t26 Ty.t53 Ty.t77 Ty.t127;have F:=Fc.mk True.intro;refine yR [1,2] ⟨?_⟩;refine yRc [3] (c6q n ss x2) ⟨?_⟩;refine zr ⟨?_⟩;exact b0g rfl rfl (.inl rfl)
theorem c0n (n:Int) (ss:List TS) (fl:List TA) (hs:ss.length≤1048576) (hl:fl.length≤1048576) (hls:∀t∈fl,t.1.size≤9223372036854775807):Con Tryz.prog 64 [.pv [tQ n ss] 0 0,sQ rQa fl] [] (.bool (dsB n ss fl)) []:=by
 refine zcn [.tmp 4] [] Tryz.func64 Tryz.ntmps64 ⟨?_⟩;intro Q0 n0 r0;have T:=tq9 Ty.t3 Ty.t4 Ty.t9 Ty.t24 Ty.t26 Ty.t27 Ty.t53 Ty.t77 Ty.t127;have F:=Fc.mk True.intro;rcases Bool.eq_false_or_eq_true (b9g n ss) with hT | hT<;>rcases Bool.eq_false_or_eq_true (b4x fl) with hF | hF
 ·skip;skip;have F:=fq2 hT hF;refine yR [1,2] ⟨?_⟩;refine c6c [4] (b4z n ss hs) (b5u fl hl hls) (b2y fl _ _ (fun x=> !c2e n x.2.2.1) hl (.pv _ .nil) (fun x0 x1 x2 x3 x4 _=>b5g x0 x1 x2 x3 x4 n ss)) ⟨?_⟩;refine zr ⟨?_⟩;exact b0g rfl (by simp [dsB,hT,hF,List.all_eq_not_any_not]) (.inl rfl)
 ·skip;skip;have F:=fq2 hT hF;refine yR [1,2] ⟨?_⟩;refine c6c [4] (b4z n ss hs) (b5u fl hl hls) (b2y fl _ _ (fun x=> !c2e n x.2.2.1) hl (.pv _ .nil) (fun x0 x1 x2 x3 x4 _=>b5g x0 x1 x2 x3 x4 n ss)) ⟨?_⟩;refine zr ⟨?_⟩;exact b0g rfl (by simp [dsB,hT,hF,List.all_eq_not_any_not]) (.inl rfl)
 ·skip;skip;have F:=fq2 hT hF;refine yR [1,2] ⟨?_⟩;refine c6c [4] (b4z n ss hs) (b5u fl hl hls) (b2y fl _ _ (fun x=> !c2e n x.2.2.1) hl (.pv _ .nil) (fun x0 x1 x2 x3 x4 _=>b5g x0 x1 x2 x3 x4 n ss)) ⟨?_⟩;refine zr ⟨?_⟩;exact b0g rfl (by simp [dsB,hT,hF,List.all_eq_not_any_not]) (.inl rfl)
 ·skip;skip;have F:=fq2 hT hF;refine yR [1,2] ⟨?_⟩;refine c6c [4] (b4z n ss hs) (b5u fl hl hls) (b2y fl _ _ (fun x=> !c2e n x.2.2.1) hl (.pv _ .nil) (fun x0 x1 x2 x3 x4 _=>b5g x0 x1 x2 x3 x4 n ss)) ⟨?_⟩;refine zr ⟨?_⟩;exact b0g rfl (by simp [dsB,hT,hF,List.all_eq_not_any_not]) (.inl rfl)
theorem d8z (n:Int) (ss:List TS) (fl:List TA) (hs:ss.length≤1048576) (hl:fl.length≤1048576) (hls:∀t∈fl,t.1.size≤9223372036854775807):Con Tryz.prog 106 [tQ n ss,sQ rQa fl] [] (.bool (dsB n ss fl)) []:=by
 refine zcn [.tmp 4] [] Tryz.func106 Tryz.ntmps106 ⟨?_⟩;intro Q0 n0 r0;have T:=tq8 Ty.t3 Ty.t4 Ty.t9 Ty.t24 Ty.t26 Ty.t27 Ty.t53 Ty.t127;have F:=Fc.mk True.intro;refine yR [1,2] ⟨?_⟩;refine b0e ?_;intros;refine d2w [1,2,14] (c1k n ss hs) (b8p fl hl hls) ⟨?_⟩;refine b0a _ rfl ?_ ?_
 ·intro hc0;have hh:dsB n ss fl=false:=by rw [dsB];(try simp at hc0);first | (rcases hc0 with h | h<;>simp [h];done) | (simp_all;done)
  refine yR [4] ⟨?_⟩;refine zr ⟨?_⟩;rw [hh];exact b0g rfl rfl (.inl rfl)
 ·intro hc0;have hTF:b9g n ss=true∧b4x fl=true:=by first | exact hc0 | (simp at hc0;exact hc0)
  have htf:=b7z hTF.1;refine zn [1,2] ⟨?_⟩;refine b0e ?_;intros;refine yR [2,15,16,17] ⟨?_⟩;refine b0i ?_;intros;refine b08 (fun i=>⟨[(2,.ptr 0 0 0),(15,sQ rQa fl),(16,.int .i64 fl.length),(17,.int .i64 (Nat.cast i))],[.box (tQ n ss) .shal],false,27,0⟩) (fun i=>i≤fl.length∧(fl.drop i).all (fun a=>c2e n a.2.2.1)=fl.all fun a=>c2e n a.2.2.1) (fun i=>fl.length - i) 0 ?_ ?_ ?_
  ·refine b0d [2,15,16,17] [0] ⟨?_⟩;rfl
  ·exact ⟨qle _,rfl⟩
  ·rintro i hok9 Q9 n9 e9 r9;obtain ⟨hi1,hR⟩:=hok9;refine yR [2,15,16,17,18] ⟨?_⟩;refine b0e ?_;intros;refine b0a _ rfl ?_ ?_
   ·intro hc1;have hlt:i < fl.length:=by omega
    obtain ⟨⟨x0,x1,x2,x3,x4⟩,hx⟩:∃x:TA,fl[i]? =some x:=⟨fl[i]'(by omega),qla (by omega)⟩;have hst:=b65 (p:=fun a=>c2e n a.2.2.1) hx;have hap:=f3e (d1l hTF.2 _ (qlb hx));simp only [] at hap;have hhb:=b6d (x:=x2) htf.1;refine zn [2,15,16,17] ⟨?_⟩;refine b0e ?_;intros;refine b0i ?_;intros;have F:=Fc.mk (gdm hx);refine yR [2,6,15,16,17] ⟨?_⟩;refine yR [2,15,16,17,25] ⟨?_⟩;refine b0a _ rfl ?_ ?_
    ·intro hc2;refine yR [4] ⟨?_⟩;refine zr ⟨?_⟩;exact b0g rfl (by rw [dsB,hTF.1,hTF.2,←hR,hst,hhb,decide_eq_false (show ¬x2 < n by omega)];simp) (.inl rfl)
    ·intro hc2;refine zn [2,15,16,17] ⟨?_⟩;refine yV ⟨?_⟩;refine n9 _ (i+1) ?_ ?_ ?_
     ·refine b0d [2,15,16,17] [0] ⟨?_⟩;rfl
     ·exact ⟨by omega,by rw [←hR,hst];simp only [];rw [hhb,decide_eq_true (show 0≤x2 by omega),decide_eq_true (show x2 < n by omega)];rfl⟩
     ·show _ < _;omega
   ·intro hc1;refine zn [] ⟨?_⟩;refine yR [4] ⟨?_⟩;refine zr ⟨?_⟩;exact b0g rfl (by rw [dsB,hTF.1,hTF.2,←hR,b9c (by omega)];rfl) (.inl rfl)
theorem f9u {l:List Int} {x:Int}:l.map (V.int .i64)++[V.int .i64 x]=(l++[x]).map (V.int .i64):=by simp only [aQ,fQ,List.map_append];try rfl
def f0t (fl:List TA) (ts:List Int):List Int:=fl.map fun a=>Tm.at_ ts a.2.2.1.toNat
theorem f48 {fl:List TA} {ts:List Int} {x:TA} {w:Nat} {p:Int} (hw:x.2.2.1=(w:Int)) (hp:ts[w]? =some p):c3m fl ts x=(b2k x && decide (0≤p)):=by
  rw [c3m,hw,qli,Tm.at_get hp]
theorem f22 {fl:List TA} {ts:List Int} {k:Nat} {x:TA} {w:Nat} {p:Int} (hx:fl[k]? =some x) (hw:x.2.2.1=(w:Int)) (hp:ts[w]? =some p):f5x fl ts (k:Int)=p:=by
  rw [f5x,qli,hx];simp only [hw,Int.toNat_natCast,Tm.at_get hp]
end Go.Proofs.YtmbbjhopngejaaaGreatDoor
