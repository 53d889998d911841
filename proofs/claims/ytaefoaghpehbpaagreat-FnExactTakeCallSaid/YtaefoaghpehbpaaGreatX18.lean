/- What functions compute. No condition. -/
import Derived.Test.YtaefoaghpehbpaaGreatUz
import Derived.Test.YtaefoaghpehbpaaGreatUty
import Derived.Test.YtaefoaghpehbpaaGreatUmG
import Derived.Test.YtaefoaghpehbpaaGreatX16
import Derived.Test.YtaefoaghpehbpaaGreatX13
import Derived.Test.YtaefoaghpehbpaaGreatX14
import Derived.Test.YtaefoaghpehbpaaGreatX17
import Derived.Test.YtaefoaghpehbpaaGreatX8
import Derived.Test.YtaefoaghpehbpaaGreatX9
import Derived.Test.YtaefoaghpehbpaaGreatX1
set_option linter.unusedSimpArgs false
set_option linter.unusedVariables false
set_option linter.defProp false
namespace Go.Proofs.YtaefoaghpehbpaaGreat
open Go Go.Vm
set_option maxHeartbeats 8000000
theorem f1u {P:Program} {f:FuncId} {xs ys rest:List V} {O O2:List Blk} {r:V} (hc:Con P f (.sl ys::rest) O r O2) (hw:WkL (xs.flatMap V.cells) (ys.flatMap V.cells)) (hlen:ys.length=xs.length) (hsz:∀n,(∀x∈xs,x.cells.length=n)→∀y∈ys,y.cells.length=n):Con P f (.sl xs::rest) O r O2:=by
  refine ⟨hc.1,fun w vals μ ow vis hi=>hc.2 w vals μ ow vis ⟨hi.sz,fun i v e=> ?_,hi.blk,hi.dom,hi.owl,hi.tab⟩⟩
  cases i with
  | succ i=>exact hi.arg (i+1) v e
  | zero=>
    obtain ⟨bl,h1,h2⟩:=hi.arg 0 _ rfl
    simp only [List.getElem?_cons_zero,Option.some.injEq] at e
    subst e
    generalize vals.getD 0 undef=x at h1
    cases h1 with
    | sl0 a c=>
      have:ys=[]:=List.length_eq_zero_iff.1 hlen
      subst this
      exact ⟨[],.sl0 a c,by simp⟩
    | sl _ b off c sz vs bl h0 hc' hs hz hl h1 hr=>
      obtain ⟨bl',g1,g2⟩:=RepL.wk hw hl
      have hne:ys≠[]:=fun e=>h0 (List.length_eq_zero_iff.1 (by rw [←hlen,e];rfl))
      rw [←hlen] at hc'⊢
      exact ⟨b::bl',.sl ys b off c sz vs bl' hne hc' hs (hsz _ hz) g1 h1 hr,fun q hq=>h2 q ((g2.cons_cons b).subset hq)⟩
theorem d0v (l:List ByteArray) (hl:l=[]):Con Tryz.prog 201 [.sl (l.map V.str)] [] (.nsl) []:=by
 have hns:(l.map V.str).all V.noSl=true:=by rw [List.all_map,List.all_eq_true];intro a _;rfl
 refine b05 [.tmp 2] [] Tryz.func201 rfl rfl rfl (by simp [Tryz.ntmps201]) ?_
 intro Q0 n0 r0
 simp only [Tryz.ntmps201,b0l,Nat.reduceAdd]
 have T:=Tys.mk (ai Ty.t9 Ty.t51)
 have F:=Fc.mk True.intro
 have F:=Fc.mk hns
 refine yR [0] ⟨?_⟩;refine b0c ?_;intros;refine b4y [0,4] ?_;intro K3 k3;refine b6n ⟨?_⟩;refine f7u ⟨?_⟩
 intro nb4 hnb4
 refine k3 _ ?_;refine zk ⟨?_⟩;refine b0d _ rfl ?_ ?_
 ·intro hc0
  refine b0c ?_;intro Q5 n5 e5 r5;refine yV ⟨?_⟩
  apply n5
  ·apply b1i (b0f [2] _)
   simp only [b0s,b0k,b0h,b0i,b0n,Nat.reduceEqDiff,reduceIte]
   exact d6x 1 2 .flat rfl (by simp) rfl
  try simp only [b1r,b1y,Nat.reduceEqDiff,reduceIte,List.set_cons_zero,List.set_cons_succ]
  refine zr ⟨?_⟩
  exact b0a rfl rfl (.inl rfl)
 ·intro hc0
  refine zn [0] ⟨?_⟩;refine b0c ?_;intro Q7 n7 e7 r7;refine yV ⟨?_⟩
  apply n7
  ·apply b1i (b0f [2] _)
   simp only [b0s,b0k,b0h,b0i,b0n,Nat.reduceEqDiff,reduceIte]
   exact d6x 2 2 .flat (by subst hl;rfl) (by simp) rfl
  try simp only [b1r,b1y,Nat.reduceEqDiff,reduceIte,List.set_cons_zero,List.set_cons_succ]
  refine zr ⟨?_⟩
  exact b0a rfl rfl (.inl rfl)
theorem c3a (l:List TI) (hl:l.length≤1048576) (hls:∀t∈l,t.2.2.2.length≤1048576):Con Tryz.prog 140 [.sl (l.map (fun t:TI=>V.agg [V.int .i64 t.1,V.int .i64 t.2.1,V.bool t.2.2.1,V.sl (t.2.2.2.map V.str)]))] [] (.ref 0) [.arr (l.map (fun t:TI=>V.agg [V.int .i64 t.1,V.int .i64 t.2.1,V.bool t.2.2.1,slN (t.2.2.2.map V.str)])) (b1v l.length)]:=by
 refine b05 [.tmp 2] [] Tryz.func140 rfl rfl rfl (by simp [Tryz.ntmps140]) ?_
 intro Q0 n0 r0
 simp only [Tryz.ntmps140,b0l,Nat.reduceAdd]
 have T:=Tys.mk (ai Ty.t3 (ai Ty.t4 (ai Ty.t9 (ai Ty.t33 (ai Ty.t51 Ty.t99)))))
 have F:=Fc.mk True.intro
 refine yR [0] ⟨?_⟩;refine yR [0,3] ⟨?_⟩;refine b0c ?_;intros;refine yR [3,6,7,8] ⟨?_⟩;refine b0g ?_;intros;refine b08 (fun i=>⟨[(3,.ref 0),(6,.sl (l.map (fun t:TI=>V.agg [V.int .i64 t.1,V.int .i64 t.2.1,V.bool t.2.2.1,V.sl (t.2.2.2.map V.str)]))),(7,.int .i64 l.length),(8,.int .i64 (Nat.cast i))],[.arr ((l.take i).map (fun t:TI=>V.agg [V.int .i64 t.1,V.int .i64 t.2.1,V.bool t.2.2.1,slN (t.2.2.2.map V.str)])) (b1v i)],false,22,0⟩) (fun i=>i≤l.length) (fun i=>l.length - i) 0 ?_ ?_ ?_
 ·refine b0b [3,6,7,8] [1] ⟨?_⟩
  rfl
 ·exact Nat.zero_le _
 ·rintro i hok6 Q6 n6 e6 r6
  have hi1:i≤l.length:=hok6
  refine yR [3,6,7,8,9] ⟨?_⟩;refine b0c ?_;intros;refine b0d _ rfl ?_ ?_
  ·intro hc0
   have hlt:i < l.length:=by omega
   obtain ⟨⟨x0,x1,x2,x3⟩,hx⟩:∃x:TI,l[i]? =some x:=⟨l[i]'(by omega),List.getElem?_eq_getElem (by omega)⟩
   have hlx:=hls _ (List.mem_of_getElem? hx)
   simp only [] at hlx
   have hsn:(l.take i).map (fun t:TI=>V.agg [V.int .i64 t.1,V.int .i64 t.2.1,V.bool t.2.2.1,slN (t.2.2.2.map V.str)])++[V.agg [V.int .i64 x0,V.int .i64 x1,V.bool x2,slN (x3.map V.str)]]=(l.take (i+1)).map (fun t:TI=>V.agg [V.int .i64 t.1,V.int .i64 t.2.1,V.bool t.2.2.1,slN (t.2.2.2.map V.str)]):=(b3n (f:=(fun t:TI=>V.agg [V.int .i64 t.1,V.int .i64 t.2.1,V.bool t.2.2.1,slN (t.2.2.2.map V.str)])) hx).symm
   have hti:(l.take i).length=i:=by rw [List.length_take];omega
   have hg:=b7z (f:=(fun t:TI=>V.agg [V.int .i64 t.1,V.int .i64 t.2.1,V.bool t.2.2.1,V.sl (t.2.2.2.map V.str)])) hx
   rcases Nat.eq_zero_or_pos x3.length with h3 | h3
   ·skip
    obtain rfl:x3=[]:=List.length_eq_zero_iff.1 h3
    have hcl:=d0v [] rfl
    have hsl:slN (([]:List ByteArray).map V.str)=.nsl:=rfl
    rw [hsl] at hsn
    simp only [List.map_nil] at hg
    refine zn [3,6,7,8] ⟨?_⟩;refine b0c ?_;intro Q10 n10 e10 r10;refine b0g ?_;intros
    have F:=Fc.mk (ai hg hti)
    refine yR [3,5,6,7,8] ⟨?_⟩;refine b0c ?_;intro Q13 n13 e13 r13;refine yVc (hcl) ⟨?_⟩
    apply n13
    ·apply b1i (b0f [3,5,6,7,8] _)
     simp only [b0s,b0k,b0h,b0i,b0n,Nat.reduceEqDiff,reduceIte]
     exact f0p 2 3 [V.int .i64 x0,V.int .i64 x1,V.bool x2] rfl rfl (by decide) rfl rfl rfl
    try simp only [b1r,b1y,Nat.reduceEqDiff,reduceIte,List.set_cons_zero,List.set_cons_succ]
    refine yV ⟨?_⟩
    apply n10
    ·apply b1i (b0f [3,6,7,8] _)
     simp only [b0s,b0k,b0h,b0i,b0n,Nat.reduceEqDiff,reduceIte]
     first | exact d0n 5 i _ rfl | exact b2s _ _
    try simp only [b1r,b1y,Nat.reduceEqDiff,reduceIte,List.set_cons_zero,List.set_cons_succ]
    refine yV ⟨?_⟩;refine n6 _ (i+1) ?_ ?_ ?_
    ·refine b0b [3,6,7,8] [5] ⟨?_⟩
     rw [←hsn];rfl
    ·exact hlt
    ·show _ < _;omega
   ·skip
    have hcl:=c46 x3 hlx
    have hx3:x3≠[]:=fun e=>by rw [e] at h3;exact absurd h3 (by decide)
    rw [f5f hx3] at hsn
    refine zn [3,6,7,8] ⟨?_⟩;refine b0c ?_;intros;refine b0g ?_;intros
    have F:=Fc.mk (ai hg hti)
    refine yR [3,5,6,7,8] ⟨?_⟩;refine yRc [3,5,6,7,8] (hcl) ⟨?_⟩;refine yQ [3,6,7,8] ⟨?_⟩;refine yV ⟨?_⟩;refine n6 _ (i+1) ?_ ?_ ?_
    ·refine b0b [3,6,7,8] [5] ⟨?_⟩
     rw [←hsn];rfl
    ·exact hlt
    ·show _ < _;omega
  ·intro hc0
   have hend:i=l.length:=by omega
   subst hend
   refine zn [3] ⟨?_⟩;refine yR [2] ⟨?_⟩;refine zr ⟨?_⟩
   rw [List.take_length]
   exact b1t rfl (by unfold b1v;split<;>rfl) rfl
theorem d98 (fl:List TA) (order:List Int):b7p fl (b6l order fl.length)=b2x fl order fl.length:=by
  rw [c6v fl order _ (Nat.le_refl _),List.drop_length,List.append_nil]
theorem f0o {n:Int} {ss:List TS} {fl:List TA} {ins:List TI} {k:Nat} {x:TI} {need:List Int} (h:SendOK n ss fl ins k x need) {j:Nat} {i:Int} (hj:(b4l (chO n ss fl x.2.1 need))[j]? =some i) :
    ∃(m:Nat) (a:TA),i=(m:Int)∧m < fl.length∧(b7p fl ((b4l (chO n ss fl x.2.1 need)).take j))[m]? =some a∧b7p fl ((b4l (chO n ss fl x.2.1 need)).take (j+1))=(b7p fl ((b4l (chO n ss fl x.2.1 need)).take j)).set m (b5o a)∧(chN n ss fl x.2.1 need)[j]? =some a.1:=by
  have hso:=d6c (node:=x.2.1) h.ds h.nd4
  have hj0:=hj
  rw [hso] at hj⊢
  obtain ⟨m,h1,h2,_,h4⟩:=b95 hj
  have ha:fl[m]? =some fl[m]:=List.getElem?_eq_getElem h2
  have hg:(b7p fl ((b6l (chO n ss fl x.2.1 need) fl.length).take j))[m]? =some fl[m]:=by
    rw [h4,c6v fl _ m (by omega)]
    exact c4s ha
  refine ⟨m,fl[m],h1,h2,hg,?_,?_⟩
  · rw [List.take_add_one,hj,h1]
    exact c9n _ _ hg
  · rw [c8o,List.getElem?_map,hj,h1]
    show some (nameAt fl (m:Int))=_
    rw [nameAt,Int.toNat_natCast,ha]
theorem f3r {n:Int} {ss:List TS} {fl:List TA} {ins:List TI} {k:Nat} {x:TI} {need:List Int} (h:SendOK n ss fl ins k x need):(b4l (chO n ss fl x.2.1 need)).length=(chN n ss fl x.2.1 need).length:=by
  rw [d6c (node:=x.2.1) h.ds h.nd4,c8o,List.length_map]
theorem f4e {n:Int} {ss:List TS} {fl:List TA} {ins:List TI} {k:Nat} {x:TI} {need:List Int} (h:SendOK n ss fl ins k x need):b7p fl (b4l (chO n ss fl x.2.1 need))=chF n ss fl x.2.1 need:=by
  rw [d6c (node:=x.2.1) h.ds h.nd4]
  exact d98 fl _
theorem f55 {P:Program} {f:FuncId} {L:List Int} {z:Int} {zl:List Int} {O O2:List Blk} {r:V} (e:L=z::zl) (hc:Con P f [.sl ((z::zl).map (V.int .i64))] O r O2):Con P f [.sl (L.map (V.int .i64))] O r O2:=by rw [e];exact hc
theorem d58 {α:Type} {f:α→V} {l:List α} (e:l.map f=[]):b1v l.length=.flat:=by
  have:l=[]:=List.map_eq_nil_iff.1 e
  subst this;rfl
theorem d4v {α:Type} {f:α→V} {l:List α} (e:l.map f≠[]):b1v l.length=.deep:=by
  have:l.length≠0:=fun h=>e (by rw [List.length_eq_zero_iff.1 h];rfl)
  unfold b1v;rw [if_neg this]
theorem f3f {l:List TA}:(l.map (fun t:TA=>V.agg [V.str t.1,V.int .i64 t.2.1,V.int .i64 t.2.2.1,V.int .i64 t.2.2.2.1,V.int .i64 t.2.2.2.2])).all V.noSl=true:=by rw [List.all_map,List.all_eq_true];intro a _;rfl
theorem c9d {vw:Bool} {O:List Blk} (b i j l:Nat) (xs ys zs:List V) (kj kl:Kd) (hb:O[b]? =some (.box (.agg [.ref i,.ref j,.ref l]) .mix)) (hi:O[i]? =some (.arr xs .flat)) (hj:O[j]? =some (.arr ys kj)) (hl:O[l]? =some (.arr zs kl)) (hkj:kj=.flat∨kj=.deep) (hkl:kl=.flat∨kl=.deep)
    (n1:b≠i) (n2:b≠j) (n3:b≠l) (n4:i≠j) (n5:i≠l) (n6:j≠l) :
    c3r vw O ((((O.set b (.box (.agg [slN xs,slN ys,slN zs]) .deep)).set i .dead).set j .dead).set l .dead):=by
  have lb:b < O.length:=(List.getElem?_eq_some_iff.1 hb).1
  have li:i < O.length:=(List.getElem?_eq_some_iff.1 hi).1
  have lj:j < O.length:=(List.getElem?_eq_some_iff.1 hj).1
  have ll:l < O.length:=(List.getElem?_eq_some_iff.1 hl).1
  let O1:=O.set b (.box (.agg [.ref i,.ref j,.ref l]) .part)
  have p1:c3r vw O O1:=c2x (by simp [O1]) fun env n mask=>c4f (s:=⟨env,O,vw,n,mask⟩) b _ _ [.agg [.ref i,.ref j,.ref l]] .mix .part hb (.inr ⟨_,_,rfl,rfl,rfl,rfl⟩) (fun _ _ _ _ _ _ h1 _=>f3q rfl h1) (.inl (by simp))
  have h2b:O1[b]? =some (.box (.agg ([]++.ref i::[.ref j,.ref l])) .part):=List.getElem?_set_self lb
  have h2i:O1[i]? =some (.arr xs .flat):=by simp only [O1];rw [List.getElem?_set_ne n1];exact hi
  have h2j:O1[j]? =some (.arr ys kj):=by simp only [O1];rw [List.getElem?_set_ne n2];exact hj
  have h2l:O1[l]? =some (.arr zs kl):=by simp only [O1];rw [List.getElem?_set_ne n3];exact hl
  let O3:=(O1.set b (.box (.agg ([]++slN xs::[.ref j,.ref l])) .part)).set i .dead
  have p3:c3r vw O1 O3:=c2x (by simp [O3]) fun env n mask=>c7i (s:=⟨env,O1,vw,n,mask⟩) b i [] [.ref j,.ref l] xs .flat h2b h2i n1 (.inl rfl)
  have h3b:O3[b]? =some (.box (.agg ([slN xs]++.ref j::[.ref l])) .part):=by simp only [O3];rw [List.getElem?_set_ne n1.symm];exact List.getElem?_set_self (by simpa [O1] using lb)
  have h3j:O3[j]? =some (.arr ys kj):=by simp only [O3];rw [List.getElem?_set_ne n4,List.getElem?_set_ne n2];exact h2j
  have h3l:O3[l]? =some (.arr zs kl):=by simp only [O3];rw [List.getElem?_set_ne n5,List.getElem?_set_ne n3];exact h2l
  let O4:=(O3.set b (.box (.agg ([slN xs]++slN ys::[.ref l])) .part)).set j .dead
  have p4:c3r vw O3 O4:=c2x (by simp [O4]) fun env n mask=>c7i (s:=⟨env,O3,vw,n,mask⟩) b j [slN xs] [.ref l] ys kj h3b h3j n2 hkj
  have h4b:O4[b]? =some (.box (.agg ([slN xs,slN ys]++.ref l::[])) .part):=by simp only [O4];rw [List.getElem?_set_ne n2.symm];exact List.getElem?_set_self (by simpa [O3,O1] using lb)
  have h4l:O4[l]? =some (.arr zs kl):=by simp only [O4];rw [List.getElem?_set_ne n6,List.getElem?_set_ne n3];exact h3l
  let O5:=(O4.set b (.box (.agg ([slN xs,slN ys]++slN zs::[])) .part)).set l .dead
  have p5:c3r vw O4 O5:=c2x (by simp [O5]) fun env n mask=>c7i (s:=⟨env,O4,vw,n,mask⟩) b l [slN xs,slN ys] [] zs kl h4b h4l n3 hkl
  have h5b:O5[b]? =some (.box (.agg [slN xs,slN ys,slN zs]) .part):=by simp only [O5];rw [List.getElem?_set_ne n3.symm];exact List.getElem?_set_self (by simpa [O4,O3,O1] using lb)
  have p6:c3r vw O5 (O5.set b (.box (.agg [slN xs,slN ys,slN zs]) .deep)):=c2x (by simp) fun env n mask=>c4f (s:=⟨env,O5,vw,n,mask⟩) b _ _ [.agg [slN xs,slN ys,slN zs]] .part .deep h5b (.inr ⟨_,_,rfl,rfl,rfl,rfl⟩) (fun _ _ _ _ _ _ h1 h2=>⟨b43 h1 (by cases xs<;>cases ys<;>cases zs<;>rfl),h2⟩) (.inl (by simp))
  have e:O5.set b (.box (.agg [slN xs,slN ys,slN zs]) .deep)=(((O.set b (.box (.agg [slN xs,slN ys,slN zs]) .deep)).set i .dead).set j .dead).set l .dead:=by
    apply List.ext_getElem?
    intro q
    simp only [O5,O4,O3,O1,List.getElem?_set,List.length_set]
    by_cases e1:b=q
    · subst e1;simp [n1.symm,n2.symm,n3.symm,lb]
    · by_cases e2:i=q
      · subst e2;simp [e1,n4.symm,n5.symm,li]
      · by_cases e3:j=q
        · subst e3;simp [e1,e2,n6.symm,lj]
        · by_cases e4:l=q
          · subst e4;simp [e1,e2,e3,ll]
          · simp [e1,e2,e3,e4]
  rw [←e]
  exact p1.trans (p3.trans (p4.trans (p5.trans p6)))
theorem d30 {m:Nat} {s:St} (b:Nat) (xs ys zs:List V) (kj kl:Kd) (hb:s.O[b]? =some (.box (.agg [slN xs,slN ys,slN zs]) .deep)) (hx:xs.all V.noSl=true) (h0:ys=[]→kj=.flat) (h1:ys≠[]→kj=.deep) (g0:zs=[]→kl=.flat) (g1:zs≠[]→kl=.deep) (hv:s.vw=false) :
    b5i m s {s with O:=s.O.set b (.box (.agg [.ref s.O.length,.ref (s.O.length+1),.ref (s.O.length+2)]) .mix)++[.arr xs .flat,.arr ys kj,.arr zs kl]}:=by
  have lb:b < s.O.length:=(List.getElem?_eq_some_iff.1 hb).1
  have w1:=c8m (m:=m) (s:=s) b [] [slN ys,slN zs] xs .deep .flat hb (.inl rfl) (fun _=>rfl) (fun _=>.inr ⟨rfl,hx⟩) hv
  let s1:St:={s with O:=s.O.set b (.box (.agg ([]++.ref s.O.length::[slN ys,slN zs])) .part)++[.arr xs .flat]}
  have hl1:s1.O.length=s.O.length+1:=by simp [s1]
  have hb1:s1.O[b]? =some (.box (.agg ([.ref s.O.length]++slN ys::[slN zs])) .part):=by
    show (s.O.set b _++[_])[b]? =_
    rw [List.getElem?_append_left (by simpa using lb),List.getElem?_set_self lb];rfl
  have w2:=c8m (m:=m) (s:=s1) b [.ref s.O.length] [slN zs] ys .part kj hb1 (.inr rfl) h0 (fun q=>.inl (h1 q)) hv
  let s2:St:={s1 with O:=s1.O.set b (.box (.agg ([.ref s.O.length]++.ref s1.O.length::[slN zs])) .part)++[.arr ys kj]}
  have hl2:s2.O.length=s.O.length+2:=by simp [s2,hl1]
  have hb2:s2.O[b]? =some (.box (.agg ([.ref s.O.length,.ref s1.O.length]++slN zs::[])) .part):=by
    show (s1.O.set b _++[_])[b]? =_
    rw [List.getElem?_append_left (by rw [List.length_set,hl1];omega),List.getElem?_set_self (by rw [hl1];omega)];rfl
  have w3:=c8m (m:=m) (s:=s2) b [.ref s.O.length,.ref s1.O.length] [] zs .part kl hb2 (.inr rfl) g0 (fun q=>.inl (g1 q)) hv
  let s3:St:={s2 with O:=s2.O.set b (.box (.agg ([.ref s.O.length,.ref s1.O.length]++.ref s2.O.length::[])) .part)++[.arr zs kl]}
  have hb3:s3.O[b]? =some (.box (.agg [.ref s.O.length,.ref s1.O.length,.ref s2.O.length]) .part):=by
    show (s2.O.set b _++[_])[b]? =_
    rw [List.getElem?_append_left (by rw [List.length_set,hl2];omega),List.getElem?_set_self (by rw [hl2];omega)];rfl
  have w4:=f5l (m:=m) (s:=s3) b _ (.box (.agg [.ref s.O.length,.ref s1.O.length,.ref s2.O.length]) .mix) [.agg [.ref s.O.length,.ref s1.O.length,.ref s2.O.length]] hb3 (.inr ⟨_,_,rfl,rfl,rfl,rfl⟩) rfl
  have w:=b1i w1 (b1i w2 (b1i w3 w4))
  have e:s3.O.set b (.box (.agg [.ref s.O.length,.ref s1.O.length,.ref s2.O.length]) .mix)=s.O.set b (.box (.agg [.ref s.O.length,.ref (s.O.length+1),.ref (s.O.length+2)]) .mix)++[.arr xs .flat,.arr ys kj,.arr zs kl]:=by
    simp only [s3,s2,s1,hl2,hl1]
    rw [List.set_append_left _ _ (by simp;omega),List.set_set,List.set_append_left _ _ (by simp;omega),List.set_set,List.set_append_left _ _ (by simpa using lb),List.set_set,List.append_assoc,List.append_assoc]
    simp
  rw [e] at w
  exact w
def b8l (ins:List TI):Int:=match ins[ins.length - 1]? with | some x=>x.1+1 | none=>1
def opB (ins:List TI):Bool:=decide (ins.length < 8) && decide (b8l ins≤999)
def b7h (ins:List TI) (node:Int):TI:=(b8l ins,node,false,[])
section
variable {n:Int} {ss:List TS} {fl:List TA} {ins:List TI} {ws:List TW} {node:Int}
theorem f5e (h:IncsProp ins):(∀x∈ins,x.1 < b8l ins)∧1≤b8l ins:=by
  rw [b8l]
  rcases Nat.eq_zero_or_pos ins.length with q | q
  · obtain rfl:ins=[]:=List.length_eq_zero_iff.1 q
    exact ⟨(fun _ hx=>nomatch hx),by decide⟩
  · have hl:ins[ins.length - 1]? =some (ins[ins.length - 1]'(by omega)):=List.getElem?_eq_getElem (by omega)
    rw [hl]
    simp only
    refine ⟨fun x hx=> ?_,?_⟩
    · obtain ⟨i,hi,rfl⟩:=List.mem_iff_getElem.1 hx
      rcases Nat.lt_or_ge i (ins.length - 1) with e | e
      · have:=List.pairwise_iff_getElem.1 h.num i (ins.length - 1) hi (by omega) e
        omega
      · have:i=ins.length - 1:=by omega
        subst this
        exact Int.lt_succ _
    · have:=(h.each _ (List.getElem_mem (show ins.length - 1 < ins.length by omega))).num
      omega
theorem f05 (h:IncsProp ins) (hn:0≤node∧node≤13):c2g (ins++[b7h ins node])=opB ins:=by
  have hg:=f5e h
  rw [Bool.eq_iff_iff,c6e,opB,Bool.and_eq_true,decide_eq_true_eq,decide_eq_true_eq]
  constructor
  · intro q
    have h1:=q.len
    have h2:=(q.each (b7h ins node) (by simp)).num
    rw [List.length_append,List.length_singleton] at h1
    exact ⟨by omega,h2.2⟩
  · rintro ⟨h1,h2⟩
    refine ⟨fun x hx=> ?_,?_,?_,?_⟩
    · rcases List.mem_append.1 hx with q | q
      · exact h.each x q
      · rw [List.mem_singleton] at q;subst q
        exact ⟨⟨hg.2,h2⟩,hn,Nat.zero_le _,fun _=>rfl,(fun _ hs=>nomatch hs),List.Pairwise.nil⟩
    · refine List.pairwise_append.2 ⟨h.num,List.pairwise_singleton ..,fun x hx y hy=> ?_⟩
      rw [List.mem_singleton] at hy;subst hy
      exact hg.1 x hx
    · refine List.pairwise_append.2 ⟨h.dis,List.pairwise_singleton ..,fun x hx y hy=> ?_⟩
      rw [List.mem_singleton] at hy;subst hy
      intro s hs;cases hs
    · rw [List.length_append,List.length_singleton];omega
theorem d2g (h:CtlProp n ss fl ins ws) (hn:0≤node∧node < n) (hnn:n≤14) (ho:opB ins=true):CtlProp n ss fl (ins++[b7h ins node]) ws:=by
  have hi:IncsProp (ins++[b7h ins node]):=(c6e _).1 (by rw [f05 h.inc ⟨hn.1,by omega⟩];exact ho)
  have hm:∀x∈ins++[b7h ins node],x∈ins∨x=b7h ins node:=fun x hx=>by
    rcases List.mem_append.1 hx with q | q
    · exact .inl q
    · exact .inr (List.mem_singleton.1 q)
  refine ⟨h.town,h.ap,h.srt,h.fl12,h.has,hi,h.ws8,fun x hx=> ?_,fun x hx s hs=> ?_,fun a ha=> ?_,fun w hw=> ?_,h.wsrt⟩
  · rcases hm x hx with q | q
    · exact h.node x q
    · subst q;exact hn
  · rcases hm x hx with q | q
    · exact h.names x q s hs
    · subst q;cases hs
  · rw [h.busy a ha]
    constructor
    · rintro ⟨x,hx,hs⟩;exact ⟨x,List.mem_append_left _ hx,hs⟩
    · rintro ⟨x,hx,hs⟩
      rcases hm x hx with q | q
      · exact ⟨x,q,hs⟩
      · subst q;cases hs
  · obtain ⟨⟨x,hx,e⟩,r⟩:=h.want w hw
    exact ⟨⟨x,List.mem_append_left _ hx,e⟩,r⟩
theorem f0c {m:Int} {left:List Int} (h:CtlProp n ss fl ins ws) (ho:∃x∈ins,x.1=m∧x.2.2.1=false) (hl:b3b left=true) (hlt:∀w∈ws,w.1 < m):c2h n ss fl ins (ws++[(m,left)])=decide (ws.length < 8):=by
  rw [Bool.eq_iff_iff,d04,decide_eq_true_eq]
  constructor
  · intro q
    have:=q.ws8
    rw [List.length_append,List.length_singleton] at this
    omega
  · intro q
    refine ⟨h.town,h.ap,h.srt,h.fl12,h.has,h.inc,by rw [List.length_append,List.length_singleton];omega,h.node,h.names,h.busy,fun w hw=> ?_,?_⟩
    · rcases List.mem_append.1 hw with e | e
      · exact h.want w e
      · rw [List.mem_singleton] at e;subst e;exact ⟨ho,hl⟩
    · refine List.pairwise_append.2 ⟨h.wsrt,List.pairwise_singleton ..,fun x hx y hy=> ?_⟩
      rw [List.mem_singleton] at hy;subst hy
      exact hlt x hx
end
def tkI (n:Int) (ss:List TS) (fl:List TA) (ins:List TI) (node:Int) (need:List Int):List TI:=b5u ins.length (ins++[b7h ins node]) (chN n ss fl node need)
def tkZ (n:Int) (ss:List TS) (fl:List TA) (node:Int) (need:List Int):Bool:=(chL n ss fl node need).all fun x:Int=>inR x 0 0
def tkW (n:Int) (ss:List TS) (fl:List TA) (ins:List TI) (ws:List TW) (node:Int) (need:List Int):List TW:=if tkZ n ss fl node need=true then ws else ws++[(b8l ins,chL n ss fl node need)]
section
variable {n:Int} {ss:List TS} {fl:List TA} {ins:List TI} {ws:List TW} {node:Int} {need:List Int}
theorem new_at:(ins++[b7h ins node])[ins.length]? =some (b7h ins node):=by simp
theorem f22 (h:CtlProp n ss fl ins ws) (hn:0≤node∧node < n) (hnn:n≤14) (ho:opB ins=true) (hd:need.length=4∧∀v∈need,0≤v∧v≤6):SendOK n ss fl (ins++[b7h ins node]) ins.length (b7h ins node) need:=
  f2d (d2g h hn hnn ho) new_at hd
theorem f5b:(tkI n ss fl ins node need).length=ins.length+1:=by rw [tkI,c8s,List.length_append,List.length_singleton]
theorem d0d (h:CtlProp n ss fl ins ws) (hn:0≤node∧node < n) (hnn:n≤14) (ho:opB ins=true) (hd:need.length=4∧∀v∈need,0≤v∧v≤6):CtlProp n ss (chF n ss fl node need) (tkI n ss fl ins node need) ws:=by
  have q:=f1c (d2g h hn hnn ho) (x:=b7h ins node) (need:=need) new_at rfl hd
  rw [show (b7h ins node).2.1=node from rfl] at q
  rw [tkI];exact q
theorem d68 (h:CtlProp n ss fl ins ws) (hn:0≤node∧node < n) (hnn:n≤14) (ho:opB ins=true) (hd:need.length=4∧∀v∈need,0≤v∧v≤6) :
    c2h n ss (chF n ss fl node need) (tkI n ss fl ins node need) (tkW n ss fl ins ws node need)=(tkZ n ss fl node need || decide (ws.length < 8)):=by
  have hk:=d0d h hn hnn ho hd
  rw [tkW]
  cases hz:tkZ n ss fl node need with
  | true=>rw [if_pos rfl];exact (d04 ..).2 hk
  | false=>
    rw [if_neg (by decide),Bool.false_or]
    have hl:=d6w (c2o (n:=n) (ss:=ss) (fl:=fl) (node:=node) hd)
    refine f0c hk ?_ ?_ fun w hw=> ?_
    · refine ⟨(b8l ins,node,false,b3y [] (chN n ss fl node need)),?_,rfl,rfl⟩
      rw [tkI]
      exact List.mem_of_getElem? (d17 new_at _)
    · rw [b3b,hl]
      show (!tkZ n ss fl node need)=true
      rw [hz];rfl
    · obtain ⟨⟨x,hx,e,_⟩,_⟩:=h.want w hw
      rw [←e];exact (f5e h.inc).1 x hx
end
instance decRow:DecidableEq (Int×Int×Int×Int×Int×Int×List Int):=@instDecidableEqProd _ _ _ (@instDecidableEqProd _ _ _ (@instDecidableEqProd _ _ _ inferInstance))
def b53 (n:Int) (t:Int×Int×Int×Int×Int×Int×List Int):Int:=szS n t.2.2.2.2.2.2
theorem c7k (n:Int) (t:Int×Int×Int×Int×Int×Int×List Int) (hn:0≤n):b53 n t≤n:=f47 hn
theorem d9j {n:Int} {l:List (Int×Int×Int×Int×Int×Int×List Int)} (hn:0≤n) (h:0≤b28 b53 n l):∀t∈l,(t.2.2.2.2.2.2.length:Int)≤n:=
  c6a (f:=b53) (g:=fun t=>(t.2.2.2.2.2.2.length:Int)) (fun n x h0 h1=>⟨f2z h1,c7k n x h0⟩) hn h
theorem f07 (x0:Int) (x1:Int) (x2:Int) (x3:Int) (x4:Int) (x5:Int) (x6:List Int) (n:Int) (hn:0≤n∧n≤1048576) (hlx:x6.length≤9223372036854775807):Con Tryz.prog 89 [.agg [V.int .i64 x0,V.int .i64 x1,V.int .i64 x2,V.int .i64 x3,V.int .i64 x4,V.int .i64 x5,V.sl (x6.map (V.int .i64))],.int .i64 n] [] (.int .i64 (b53 n (x0,x1,x2,x3,x4,x5,x6))) []:=by
 refine b05 [.tmp 4] [] Tryz.func89 rfl rfl rfl (by simp [Tryz.ntmps89]) ?_
 intro Q0 n0 r0
 simp only [Tryz.ntmps89,b0l,Nat.reduceAdd]
 have T:=Tys.mk (ai Ty.t3 (ai Ty.t75 Ty.t133))
 have F:=Fc.mk True.intro
 refine yR [1,2] ⟨?_⟩;refine yRc [1] ((szIntS_con n x6 hn hlx:Con _ _ _ _ (.int .i64 (szS n x6)) _)) ⟨?_⟩;refine b0c ?_;intros;refine yR [1,10] ⟨?_⟩;refine b0d _ rfl ?_ ?_
 ·intro hc0
  refine yR [4] ⟨?_⟩;refine zr ⟨?_⟩
  exact b0a rfl (by rw [show b53 n (x0,x1,x2,x3,x4,x5,x6)=-1 from f0v hc0]) (.inl rfl)
 ·intro hc0
  refine zn [1] ⟨?_⟩;refine yR [4] ⟨?_⟩;refine zr ⟨?_⟩
  exact b0a rfl rfl (.inl rfl)
theorem d8d (n:Int) (ll:List (Int×Int×Int×Int×Int×Int×List Int)) (hn:0≤n∧n≤1048576) (hl:ll.length≤9223372036854775807) (hls:∀t∈ll,t.2.2.2.2.2.2.length≤9223372036854775807):Con Tryz.prog 26 [.sl (ll.map (fun t:Int×Int×Int×Int×Int×Int×List Int=>V.agg [V.int .i64 t.1,V.int .i64 t.2.1,V.int .i64 t.2.2.1,V.int .i64 t.2.2.2.1,V.int .i64 t.2.2.2.2.1,V.int .i64 t.2.2.2.2.2.1,V.sl (t.2.2.2.2.2.2.map (V.int .i64))])),.int .i64 n] [] (.int .i64 (if n - ll.length < 0 then -1 else b28 b53 (n - ll.length) ll)) []:=by
 refine b05 [.tmp 4] [] Tryz.func26 rfl rfl rfl (by simp [Tryz.ntmps26]) ?_
 intro Q0 n0 r0
 simp only [Tryz.ntmps26,b0l,Nat.reduceAdd]
 have T:=Tys.mk (ai Ty.t3 (ai Ty.t57 (ai Ty.t75 Ty.t133)))
 have F:=Fc.mk True.intro
 refine yR [0,1] ⟨?_⟩;refine yR [0,1] ⟨?_⟩;refine b0c ?_;intros;refine yR [0,1,11] ⟨?_⟩;refine b0d _ rfl ?_ ?_
 ·intro hc0
  refine yR [4] ⟨?_⟩;refine zr ⟨?_⟩
  exact b0a rfl (by rw [if_pos (by omega)]) (.inl rfl)
 ·intro hc0
  refine zn [0,1] ⟨?_⟩;refine b0c ?_;intros;refine yR [0,1,5] ⟨?_⟩;refine b0g ?_;intros;refine b08 (fun p=>⟨[(0,.sl (ll.map (fun t:Int×Int×Int×Int×Int×Int×List Int=>V.agg [V.int .i64 t.1,V.int .i64 t.2.1,V.int .i64 t.2.2.1,V.int .i64 t.2.2.2.1,V.int .i64 t.2.2.2.2.1,V.int .i64 t.2.2.2.2.2.1,V.sl (t.2.2.2.2.2.2.map (V.int .i64))]))),(1,.int .i64 p.2),(5,.int .i64 (Nat.cast p.1))],[],false,27,0⟩) (fun p=>p.1≤ll.length∧0≤p.2∧p.2≤1048576∧b28 b53 p.2 (ll.drop p.1)=b28 b53 (n - ll.length) ll) (fun p=>ll.length - p.1) (0,n - ll.length) ?_ ?_ ?_
  ·refine b1a [0,1,5] ?_
   simp only [b0s,b0k,b0h,b0i,b0n,Nat.reduceEqDiff,reduceIte]
   rfl
  ·exact ⟨Nat.zero_le _,by omega,by omega,by simp⟩
  ·rintro ⟨i,m⟩ hok10 Q10 n10 e10 r10
   obtain ⟨hi1,hm0,hm1,hR⟩:=hok10
   simp only [] at hi1 hm0 hm1 hR⊢
   refine b0c ?_;intros;refine yR [0,1,5,15] ⟨?_⟩;refine b0d _ rfl ?_ ?_
   ·intro hc1
    have hlt:i < ll.length:=by omega
    obtain ⟨⟨x0,x1,x2,x3,x4,x5,x6⟩,hx⟩:∃x:Int×Int×Int×Int×Int×Int×List Int,ll[i]? =some x:=⟨ll[i]'(by omega),List.getElem?_eq_getElem (by omega)⟩
    have hlx:=hls _ (List.mem_of_getElem? hx)
    simp only [] at hlx
    have hstep:b28 b53 m (ll.drop i)=if b53 m (x0,x1,x2,x3,x4,x5,x6) < 0 then -1 else b28 b53 (b53 m (x0,x1,x2,x3,x4,x5,x6)) (ll.drop (i+1)):=by rw [b0r hx,b28]
    have hzle:=c7k m (x0,x1,x2,x3,x4,x5,x6) hm0
    refine zn [0,1,5] ⟨?_⟩;refine b0c ?_;intros;refine b0g ?_;intros
    have F:=Fc.mk (gdm hx)
    refine yRc [0,1,5] (f07 x0 x1 x2 x3 x4 x5 x6 m ⟨hm0,hm1⟩ hlx) ⟨?_⟩;refine yR [0,1,5,25] ⟨?_⟩;refine b0d _ rfl ?_ ?_
    ·intro hc2
     refine yR [4] ⟨?_⟩;refine zr ⟨?_⟩
     exact b0a rfl (by rw [if_neg (by omega),←hR,hstep,if_pos hc2]) (.inl rfl)
    ·intro hc2
     refine zn [0,1,5] ⟨?_⟩;refine yV ⟨?_⟩;refine n10 _ (i+1,b53 m (x0,x1,x2,x3,x4,x5,x6)) ?_ ?_ ?_
     ·refine b1a [0,1,5] ?_
      simp only [b0s,b0k,b0h,b0i,b0n,Nat.reduceEqDiff,reduceIte]
      rfl
     ·exact ⟨by simp only [];omega,by simp only [];omega,by simp only [];omega,by simp only [];rw [←hR,hstep,if_neg (by omega)]⟩
     ·show _ < _;simp only [];omega
   ·intro hc1
    refine zn [1] ⟨?_⟩;refine yR [4] ⟨?_⟩;refine zr ⟨?_⟩
    exact b0a rfl (by rw [if_neg (by omega),←hR,List.drop_of_length_le (by omega)];rfl) (.inl rfl)
theorem d96 (x0:Int) (x1:Int) (x2:Int) (x3:Int) (x4:Int) (x5:Int) (x6:List Int) (hlx:x6.length≤1048576):Con Tryz.prog 93 [.agg [V.int .i64 x0,V.int .i64 x1,V.int .i64 x2,V.int .i64 x3,V.int .i64 x4,V.int .i64 x5,V.sl (x6.map (V.int .i64))]] [] (.agg [V.int .i64 x0,V.int .i64 x1,V.int .i64 x2,V.int .i64 x3,V.int .i64 x4,V.int .i64 x5,.ref 0]) [.arr (x6.map (V.int .i64)) .flat]:=by
 refine b05 [.cell 2 138] [] Tryz.func93 rfl rfl rfl (by simp [Tryz.ntmps93]) ?_
 intro Q0 n0 r0
 simp only [Tryz.ntmps93,b0l,Nat.reduceAdd]
 have T:=Tys.mk (ai Ty.t3 (ai Ty.t75 (ai Ty.t133 Ty.t138)))
 have F:=Fc.mk True.intro
 refine yR [1,2] ⟨?_⟩;refine yR [1,2,3] ⟨?_⟩;refine yR [1,2,3] ⟨?_⟩;refine yR [1,2,3] ⟨?_⟩;refine yR [1,2,3] ⟨?_⟩;refine yR [1,2,3] ⟨?_⟩;refine yR [1,2,3] ⟨?_⟩;refine yR [1,2,3] ⟨?_⟩;refine yRc [2,3] (c89 x6 hlx) ⟨?_⟩;refine yR [2] ⟨?_⟩;refine zq3 ⟨?_⟩
 exact c0e [5] rfl rfl (by decide) rfl (by simp) (by simp [Blk.kindIs]) rfl
theorem d8i (l:List (Int×Int×Int×Int×Int×Int×List Int)) (hl:l.length≤1048576) (hls:∀t∈l,t.2.2.2.2.2.2.length≤1048576):Con Tryz.prog 28 [.sl (l.map (fun t:Int×Int×Int×Int×Int×Int×List Int=>V.agg [V.int .i64 t.1,V.int .i64 t.2.1,V.int .i64 t.2.2.1,V.int .i64 t.2.2.2.1,V.int .i64 t.2.2.2.2.1,V.int .i64 t.2.2.2.2.2.1,V.sl (t.2.2.2.2.2.2.map (V.int .i64))]))] [] (.ref 0) [.arr (l.map (fun t:Int×Int×Int×Int×Int×Int×List Int=>V.agg [V.int .i64 t.1,V.int .i64 t.2.1,V.int .i64 t.2.2.1,V.int .i64 t.2.2.2.1,V.int .i64 t.2.2.2.2.1,V.int .i64 t.2.2.2.2.2.1,V.sl (t.2.2.2.2.2.2.map (V.int .i64))])) (b1v l.length)]:=by
 refine b05 [.tmp 2] [] Tryz.func28 rfl rfl rfl (by simp [Tryz.ntmps28]) ?_
 intro Q0 n0 r0
 simp only [Tryz.ntmps28,b0l,Nat.reduceAdd]
 have T:=Tys.mk (ai Ty.t3 (ai Ty.t57 (ai Ty.t63 (ai Ty.t75 (ai Ty.t133 Ty.t138)))))
 have F:=Fc.mk True.intro
 refine yR [0] ⟨?_⟩;refine yR [0,3] ⟨?_⟩;refine b0c ?_;intros;refine yR [0,3,4] ⟨?_⟩;refine b0g ?_;intro Q5 n5 x5 e5 r5;refine b08 (fun i=>⟨[(0,.sl (l.map (fun t:Int×Int×Int×Int×Int×Int×List Int=>V.agg [V.int .i64 t.1,V.int .i64 t.2.1,V.int .i64 t.2.2.1,V.int .i64 t.2.2.2.1,V.int .i64 t.2.2.2.2.1,V.int .i64 t.2.2.2.2.2.1,V.sl (t.2.2.2.2.2.2.map (V.int .i64))]))),(3,.ref 0),(4,.int .i64 (Nat.cast i))],[.arr (b4z (fun t:Int×Int×Int×Int×Int×Int×List Int=>V.agg [V.int .i64 t.1,V.int .i64 t.2.1,V.int .i64 t.2.2.1,V.int .i64 t.2.2.2.1,V.int .i64 t.2.2.2.2.1,V.int .i64 t.2.2.2.2.2.1,V.sl (t.2.2.2.2.2.2.map (V.int .i64))]) (V.agg [V.int .i64 0,V.int .i64 0,V.int .i64 0,V.int .i64 0,V.int .i64 0,V.int .i64 0,V.sl []]) l i) (b1v i)],false,23,0⟩) (fun i=>i≤l.length) (fun i=>l.length - i) 0 ?_ ?_ ?_
 ·refine b0b [0,3,4] [1] ⟨?_⟩
  rw [b7c];rfl
 ·exact Nat.zero_le _
 ·rintro i hok6 Q6 n6 e6 r6
  have hi1:i≤l.length:=hok6
  refine b0c ?_;intros;refine yR [0,3,4,11] ⟨?_⟩;refine b0d _ rfl ?_ ?_
  ·intro hc0
   have hlt:i < l.length:=by omega
   obtain ⟨⟨x0,x1,x2,x3,x4,x5,x6⟩,hx⟩:∃x:Int×Int×Int×Int×Int×Int×List Int,l[i]? =some x:=⟨l[i]'(by omega),List.getElem?_eq_getElem (by omega)⟩
   have hlx:=hls _ (List.mem_of_getElem? hx)
   simp only [] at hlx
   refine zn [0,3,4] ⟨?_⟩;refine b0c ?_;intros;refine b0g ?_;intros
   have F:=Fc.mk (ai (gdm hx) (ai (fun f z=>b9c (f:=f) (z:=z) hi1) (ai (fun f z=>b9i (f:=f) (z:=z) hlt) (fun f z=>b9e (f:=f) (z:=z) hx))))
   refine yQc [0,3,4] (d96 x0 x1 x2 x3 x4 x5 x6 hlx) ⟨?_⟩;refine yV ⟨?_⟩;refine n6 _ (i+1) ?_ ?_ ?_
   ·refine b0b [0,3,4] [0] ⟨?_⟩
    rfl
   ·exact hlt
   ·show _ < _;omega
  ·intro hc0
   refine zn [3] ⟨?_⟩;refine yR [2] ⟨?_⟩;refine zr ⟨?_⟩
   have hend:l.length=i:=by omega
   rw [←b87 (f:=(fun t:Int×Int×Int×Int×Int×Int×List Int=>V.agg [V.int .i64 t.1,V.int .i64 t.2.1,V.int .i64 t.2.2.1,V.int .i64 t.2.2.2.1,V.int .i64 t.2.2.2.2.1,V.int .i64 t.2.2.2.2.2.1,V.sl (t.2.2.2.2.2.2.map (V.int .i64))])) (z:=(V.agg [V.int .i64 0,V.int .i64 0,V.int .i64 0,V.int .i64 0,V.int .i64 0,V.int .i64 0,V.sl []])) (show l.length≤i by omega),hend]
   exact b9p rfl (b9n _)
theorem f13 (x0:Int) (x1:Int) (x2:Int) (x3:Int) (x4:Int) (x5:Int) (x6:List Int) (y0:Int) (y1:Int) (y2:Int) (y3:Int) (y4:Int) (y5:Int) (y6:List Int) (hlx:x6.length≤1048576):Con Tryz.prog 99 [.agg [V.int .i64 x0,V.int .i64 x1,V.int .i64 x2,V.int .i64 x3,V.int .i64 x4,V.int .i64 x5,V.sl (x6.map (V.int .i64))],.agg [V.int .i64 y0,V.int .i64 y1,V.int .i64 y2,V.int .i64 y3,V.int .i64 y4,V.int .i64 y5,V.sl (y6.map (V.int .i64))]] [] (.bool (decide ((x0,x1,x2,x3,x4,x5,x6)=(y0,y1,y2,y3,y4,y5,y6)))) []:=by
 refine b05 [.tmp 4] [] Tryz.func99 rfl rfl rfl (by simp [Tryz.ntmps99]) ?_
 intro Q0 n0 r0
 simp only [Tryz.ntmps99,b0l,Nat.reduceAdd]
 have T:=Tys.mk (ai Ty.t3 (ai Ty.t4 (ai Ty.t75 Ty.t138)))
 have F:=Fc.mk True.intro
 refine yR [2,3] ⟨?_⟩;refine b0c ?_;intros;refine yR [2,3,9] ⟨?_⟩;refine b0d _ rfl ?_ ?_
 ·intro hc0
  refine yR [4] ⟨?_⟩;refine zr ⟨?_⟩
  exact b0a rfl (by rw [decide_eq_false (by intro h;simp only [Prod.mk.injEq] at h;exact hc0 h.1)]) (.inl rfl)
 ·intro hc0
  refine zn [2,3] ⟨?_⟩;refine b0c ?_;intros;refine yR [2,3,14] ⟨?_⟩;refine b0d _ rfl ?_ ?_
  ·intro hc1
   refine yR [4] ⟨?_⟩;refine zr ⟨?_⟩
   exact b0a rfl (by rw [decide_eq_false (by intro h;simp only [Prod.mk.injEq] at h;exact hc1 h.2.1)]) (.inl rfl)
  ·intro hc1
   refine zn [2,3] ⟨?_⟩;refine b0c ?_;intros;refine yR [2,3,19] ⟨?_⟩;refine b0d _ rfl ?_ ?_
   ·intro hc2
    refine yR [4] ⟨?_⟩;refine zr ⟨?_⟩
    exact b0a rfl (by rw [decide_eq_false (by intro h;simp only [Prod.mk.injEq] at h;exact hc2 h.2.2.1)]) (.inl rfl)
   ·intro hc2
    refine zn [2,3] ⟨?_⟩;refine b0c ?_;intros;refine yR [2,3,24] ⟨?_⟩;refine b0d _ rfl ?_ ?_
    ·intro hc3
     refine yR [4] ⟨?_⟩;refine zr ⟨?_⟩
     exact b0a rfl (by rw [decide_eq_false (by intro h;simp only [Prod.mk.injEq] at h;exact hc3 h.2.2.2.1)]) (.inl rfl)
    ·intro hc3
     refine zn [2,3] ⟨?_⟩;refine b0c ?_;intros;refine yR [2,3,29] ⟨?_⟩;refine b0d _ rfl ?_ ?_
     ·intro hc4
      refine yR [4] ⟨?_⟩;refine zr ⟨?_⟩
      exact b0a rfl (by rw [decide_eq_false (by intro h;simp only [Prod.mk.injEq] at h;exact hc4 h.2.2.2.2.1)]) (.inl rfl)
     ·intro hc4
      refine zn [2,3] ⟨?_⟩;refine b0c ?_;intros;refine yR [2,3,34] ⟨?_⟩;refine b0d _ rfl ?_ ?_
      ·intro hc5
       refine yR [4] ⟨?_⟩;refine zr ⟨?_⟩
       exact b0a rfl (by rw [decide_eq_false (by intro h;simp only [Prod.mk.injEq] at h;exact hc5 h.2.2.2.2.2.1)]) (.inl rfl)
      ·intro hc5
       refine zn [2,3] ⟨?_⟩;refine b0c ?_;intros;refine yRc [40] (c9c x6 y6 hlx) ⟨?_⟩;refine b0d _ rfl ?_ ?_
       ·intro hc6
        refine yR [4] ⟨?_⟩;refine zr ⟨?_⟩
        exact b0a rfl (by rw [decide_eq_false (by intro h;simp only [Prod.mk.injEq] at h;(try simp at hc6);exact hc6 h.2.2.2.2.2.2)]) (.inl rfl)
       ·intro hc6
        refine zn [] ⟨?_⟩;refine yR [4] ⟨?_⟩;refine zr ⟨?_⟩
        exact b0a rfl (by rw [decide_eq_true (by (try simp at hc6);rw [hc0,hc1,hc2,hc3,hc4,hc5,hc6])]) (.inl rfl)
theorem d9n (a b:List (Int×Int×Int×Int×Int×Int×List Int)) (ha:a.length≤1048576) (has:∀t∈a,t.2.2.2.2.2.2.length≤1048576):Con Tryz.prog 31 [.sl (a.map (fun t:Int×Int×Int×Int×Int×Int×List Int=>V.agg [V.int .i64 t.1,V.int .i64 t.2.1,V.int .i64 t.2.2.1,V.int .i64 t.2.2.2.1,V.int .i64 t.2.2.2.2.1,V.int .i64 t.2.2.2.2.2.1,V.sl (t.2.2.2.2.2.2.map (V.int .i64))])),.sl (b.map (fun t:Int×Int×Int×Int×Int×Int×List Int=>V.agg [V.int .i64 t.1,V.int .i64 t.2.1,V.int .i64 t.2.2.1,V.int .i64 t.2.2.2.1,V.int .i64 t.2.2.2.2.1,V.int .i64 t.2.2.2.2.2.1,V.sl (t.2.2.2.2.2.2.map (V.int .i64))]))] [] (.bool (decide (a=b))) []:=by
 refine b05 [.tmp 4] [] Tryz.func31 rfl rfl rfl (by simp [Tryz.ntmps31]) ?_
 intro Q0 n0 r0
 simp only [Tryz.ntmps31,b0l,Nat.reduceAdd]
 have T:=Tys.mk (ai Ty.t3 (ai Ty.t4 (ai Ty.t63 (ai Ty.t75 Ty.t138))))
 have F:=Fc.mk True.intro
 refine yR [0,1] ⟨?_⟩;refine b0c ?_;intros;refine yR [0,1,10] ⟨?_⟩;refine b0d _ rfl ?_ ?_
 ·intro hc0
  refine yR [4] ⟨?_⟩;refine zr ⟨?_⟩
  exact b0a rfl (by rw [decide_eq_false (fun h=>by subst h;simp at hc0)]) (.inl rfl)
 ·intro hc0
  have hab:a.length=b.length:=by omega
  refine zn [0,1] ⟨?_⟩;refine b0c ?_;intros;refine yR [0,1,5] ⟨?_⟩;refine b0g ?_;intros;refine b08 (fun i=>⟨[(0,.sl (a.map (fun t:Int×Int×Int×Int×Int×Int×List Int=>V.agg [V.int .i64 t.1,V.int .i64 t.2.1,V.int .i64 t.2.2.1,V.int .i64 t.2.2.2.1,V.int .i64 t.2.2.2.2.1,V.int .i64 t.2.2.2.2.2.1,V.sl (t.2.2.2.2.2.2.map (V.int .i64))]))),(1,.sl (b.map (fun t:Int×Int×Int×Int×Int×Int×List Int=>V.agg [V.int .i64 t.1,V.int .i64 t.2.1,V.int .i64 t.2.2.1,V.int .i64 t.2.2.2.1,V.int .i64 t.2.2.2.2.1,V.int .i64 t.2.2.2.2.2.1,V.sl (t.2.2.2.2.2.2.map (V.int .i64))]))),(5,.int .i64 (Nat.cast i))],[],false,27,0⟩) (fun i=>i≤a.length∧((a=b)↔(a.drop i=b.drop i))) (fun i=>a.length - i) 0 ?_ ?_ ?_
  ·refine b1a [0,1,5] ?_
   simp only [b0s,b0k,b0h,b0i,b0n,Nat.reduceEqDiff,reduceIte]
   rfl
  ·exact ⟨Nat.zero_le _,by simp⟩
  ·rintro i hok9 Q9 n9 e9 r9
   obtain ⟨hi1,hR⟩:=hok9
   refine b0c ?_;intros;refine yR [0,1,5,14] ⟨?_⟩;refine b0d _ rfl ?_ ?_
   ·intro hc1
    have hlt:i < a.length:=by omega
    obtain ⟨⟨x0,x1,x2,x3,x4,x5,x6⟩,hx⟩:∃x:Int×Int×Int×Int×Int×Int×List Int,a[i]? =some x:=⟨a[i]'(by omega),List.getElem?_eq_getElem (by omega)⟩
    obtain ⟨⟨y0,y1,y2,y3,y4,y5,y6⟩,hy⟩:∃x:Int×Int×Int×Int×Int×Int×List Int,b[i]? =some x:=⟨b[i]'(by omega),List.getElem?_eq_getElem (by omega)⟩
    have hstep:=c2b hab hx hy
    have hlx:=has _ (List.mem_of_getElem? hx)
    simp only [] at hlx
    refine zn [0,1,5] ⟨?_⟩;refine b0c ?_;intros;refine b0g ?_;intros;refine b0c ?_;intro Q15 n15 e15 r15;refine b1p (by kernel_rfl) ?_;intro K16 q16 k16
    show b14 _ _ _ _ 10 (Array.replicate 10 false) _
    have F:=Fc.mk (ai (gdm hx) (gdm hy))
    refine b0o q16 true 0 17 ?_;refine b0o q16 true 1 18 ?_;refine b07 q16 true 2 19 ?_;refine b1h q16 true 3 20 ?_;refine b0o q16 true 4 21 ?_;refine b0o q16 true 5 22 ?_;refine b07 q16 true 6 23 ?_;refine b1h q16 true 7 24 ?_;refine zoc 8 (f13 x0 x1 x2 x3 x4 x5 x6 y0 y1 y2 y3 y4 y5 y6 hlx) ⟨?_⟩;refine b5q q16 true 9 26 ?_;refine b0j (by kernel_rfl) ?_;refine k16 _ ?_;refine n15 _ _ (b0f [0,1,5,26] _) ?_;refine zk ⟨?_⟩;refine b0d _ rfl ?_ ?_
    ·intro hc2
     refine yR [4] ⟨?_⟩;refine zr ⟨?_⟩
     exact b0a rfl (by rw [decide_eq_false (fun h=>hc2 (hstep.1 (hR.1 h)).1)]) (.inl rfl)
    ·intro hc2
     refine zn [0,1,5] ⟨?_⟩;refine yV ⟨?_⟩;refine n9 _ (i+1) ?_ ?_ ?_
     ·refine b1a [0,1,5] ?_
      simp only [b0s,b0k,b0h,b0i,b0n,Nat.reduceEqDiff,reduceIte]
      rfl
     ·exact ⟨by omega,hR.trans (hstep.trans ⟨fun h=>h.2,fun h=>⟨hc2,h⟩⟩)⟩
     ·show _ < _;omega
   ·intro hc1
    refine zn [] ⟨?_⟩;refine yR [4] ⟨?_⟩;refine zr ⟨?_⟩
    exact b0a rfl (by rw [decide_eq_true (hR.2 (by rw [List.drop_of_length_le (by omega),List.drop_of_length_le (by omega)]))]) (.inl rfl)
end Go.Proofs.YtaefoaghpehbpaaGreat
