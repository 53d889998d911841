/- What functions compute. No condition. -/
import Derived.Test.YtaefoaghpehbpaaGreatUz
import Derived.Test.YtaefoaghpehbpaaGreatUty
import Derived.Test.YtaefoaghpehbpaaGreatUmG
import Derived.Test.YtaefoaghpehbpaaGreatX15
import Derived.Test.YtaefoaghpehbpaaGreatX13
import Derived.Test.YtaefoaghpehbpaaGreatX14
import Derived.Test.YtaefoaghpehbpaaGreatX8
import Derived.Test.YtaefoaghpehbpaaGreatX10
set_option linter.unusedSimpArgs false
set_option linter.unusedVariables false
set_option linter.defProp false
namespace Go.Proofs.YtaefoaghpehbpaaGreat
open Go Go.Vm
set_option maxHeartbeats 8000000
def chO (n:Int) (ss:List TS) (fl:List TA) (node:Int) (need:List Int):List Int:=(c2e n ss fl node need).2
def chN (n:Int) (ss:List TS) (fl:List TA) (node:Int) (need:List Int):List ByteArray:=b9v fl (chO n ss fl node need) fl.length
def chF (n:Int) (ss:List TS) (fl:List TA) (node:Int) (need:List Int):List TA:=b2x fl (chO n ss fl node need) fl.length
def chL (n:Int) (ss:List TS) (fl:List TA) (node:Int) (need:List Int):List Int:=(c2e n ss fl node need).1
structure SendOK (n:Int) (ss:List TS) (fl:List TA) (ins:List TI) (k:Nat) (x:TI) (need:List Int):Prop where
  ds:DsFacts n ss fl
  at_:ins[k]? =some x
  node:0≤x.2.1∧x.2.1 < n
  nd4:need.length=4∧∀v∈need,0≤v∧v≤6
  srt:x.2.2.2.Pairwise fun a b=>b2f a b=true
  dis:∀s∈chN n ss fl x.2.1 need,s ∉ x.2.2.2
  len:x.2.2.2.length≤12
  il:ins.length≤8
  nl:∀y∈ins,y.2.2.2.length≤12
section
variable {n:Int} {ss:List TS} {fl:List TA} {node:Int} {need:List Int}
theorem f17 (hd:DsFacts n ss fl) (hn:need.length=4∧∀v∈need,0≤v∧v≤6) {i:Int} (h:i∈chO n ss fl node need):∃(k:Nat) (a:TA),i=(k:Int)∧fl[k]? =some a∧k < fl.length∧b2h a=true∧0≤a.2.1∧a.2.1≤3:=by
  have hs:=(b62 (fl:=fl) hn (b8a fl (tmL n ss node))).2.2.2
  obtain ⟨k,a,h1,h2,h3,h4⟩:=c4n (hs.subset h)
  have:=hd.hap a (List.mem_of_getElem? h3)
  rw [c0l,Bool.and_eq_true] at h4
  exact ⟨k,a,h1,h3,h2,h4.1,this.1.1,this.1.2⟩
theorem f7z (hn:need.length=4∧∀v∈need,0≤v∧v≤6):(chO n ss fl node need).Nodup:=
  List.Sublist.nodup (b62 (fl:=fl) hn (b8a fl (tmL n ss node))).2.2.2 (d2i fl (tmL n ss node))
theorem f5d (hd:DsFacts n ss fl) (hn:need.length=4∧∀v∈need,0≤v∧v≤6):(chO n ss fl node need).length≤12:=
  Nat.le_trans (b62 (fl:=fl) hn (b8a fl (tmL n ss node))).2.2.1 (Nat.le_trans (c4q ..) hd.hfl)
theorem d5k (hd:DsFacts n ss fl):(chN n ss fl node need).length≤12:=Nat.le_trans (d1g ..) hd.hfl
theorem d6c (hd:DsFacts n ss fl) (hn:need.length=4∧∀v∈need,0≤v∧v≤6):b4l (chO n ss fl node need)=b6l (chO n ss fl node need) fl.length:=
  f5v (f7z hn) fun i hi=>by
    obtain ⟨k,_,h1,_,h2,_⟩:=f17 hd hn hi
    exact ⟨k,h1,h2⟩
theorem c8o:chN n ss fl node need=(b6l (chO n ss fl node need) fl.length).map (nameAt fl):=d64 fl _ _ (Nat.le_refl _)
theorem d50 {s:ByteArray} (h:s∈chN n ss fl node need):∃(k:Nat) (a:TA),(k:Int)∈chO n ss fl node need∧fl[k]? =some a∧a.1=s:=by
  rw [c8o] at h
  obtain ⟨i,hi,rfl⟩:=List.mem_map.1 h
  obtain ⟨j,hj,rfl⟩:=List.mem_iff_getElem.1 hi
  obtain ⟨q,h1,h2,h3,_⟩:=b95 (List.getElem?_eq_getElem hj)
  rw [h1]
  exact ⟨q,fl[q],h3,List.getElem?_eq_getElem h2,by rw [nameAt,Int.toNat_natCast,List.getElem?_eq_getElem h2]⟩
theorem f4x (hd:DsFacts n ss fl):(chN n ss fl node need).Nodup:=by
  rw [c8o,List.Nodup,List.pairwise_map]
  refine List.pairwise_iff_getElem.2 fun i j hi hj hij=> ?_
  obtain ⟨p,p1,p2,_,p4⟩:=b95 (List.getElem?_eq_getElem hi)
  obtain ⟨q,q1,q2,_,q4⟩:=b95 (List.getElem?_eq_getElem hj)
  rw [p1,q1,nameAt,nameAt,Int.toNat_natCast,Int.toNat_natCast,List.getElem?_eq_getElem p2,List.getElem?_eq_getElem q2]
  have hlt:p < q:=by
    have h1:(b6l (chO n ss fl node need) fl.length)[i]∈(b6l (chO n ss fl node need) fl.length).take j:=List.mem_iff_getElem.2 ⟨i,by rw [List.length_take];omega,by rw [List.getElem_take]⟩
    rw [q4,p1,b6l,List.mem_filter,List.mem_map] at h1
    obtain ⟨⟨z,hz,e⟩,_⟩:=h1
    have:=List.mem_range.1 hz
    omega
  intro e
  have hb:=List.pairwise_iff_getElem.1 hd.hinc p q p2 q2 hlt
  simp only [c35] at hb
  simp only at e
  rw [e,b79] at hb;cases hb
theorem f1v {s:ByteArray}:∀{N:List ByteArray} {j:Nat},N.Nodup→N[j]? =some s→s ∉ N.take j
  | _,0,_,_=>by simp
  | [],j+1,_,h=>by simp at h
  | t::N,j+1,hn,h=>by
    have hn':=List.nodup_cons.1 hn
    have h':N[j]? =some s:=by simpa using h
    rw [List.take_succ_cons,List.mem_cons]
    rintro (e | e)
    · subst e;exact hn'.1 (List.mem_of_getElem? h')
    · exact f1v hn'.2 h' e
theorem d13 {ins:List TI} {k:Nat} {x0 x1:Int} {x2:Bool} {x3:List ByteArray} (h:SendOK n ss fl ins k (x0,x1,x2,x3) need) {j:Nat} {s:ByteArray} (hj:(chN n ss fl x1 need)[j]? =some s) :
    s ∉ b3y x3 ((chN n ss fl x1 need).take j)∧(b3y x3 ((chN n ss fl x1 need).take j)).Pairwise (fun a b=>b2f a b=true)∧(b3y x3 ((chN n ss fl x1 need).take j)).length≤24∧(b5u k ins ((chN n ss fl x1 need).take j))[k]? =some (x0,x1,x2,b3y x3 ((chN n ss fl x1 need).take j))∧(b5u k ins ((chN n ss fl x1 need).take j)).length≤8∧(∀y∈b5u k ins ((chN n ss fl x1 need).take j),y.2.2.2.length≤24)∧
    (b5u k ins ((chN n ss fl x1 need).take j)).set k (x0,x1,x2,b5s (b3y x3 ((chN n ss fl x1 need).take j)) s)=b5u k ins ((chN n ss fl x1 need).take (j+1)):=by
  have hnd:=f4x (node:=x1) (need:=need) h.ds
  have hsub:∀t∈(chN n ss fl x1 need).take j,t∈chN n ss fl x1 need:=fun t ht=>List.mem_of_mem_take ht
  have hl:(b3y x3 ((chN n ss fl x1 need).take j)).length≤24:=by
    have h1:=d5k (node:=x1) (need:=need) h.ds
    have h2:=h.len
    simp only at h2
    rw [c9b,List.length_take];omega
  refine ⟨fun q=> ?_,c3v h.srt ((List.take_sublist ..).nodup hnd) fun t ht=>h.dis t (hsub t ht),hl,d17 h.at_ _,by rw [c8s];exact h.il,fun y hy=> ?_,?_⟩
  · rcases b4u.1 q with q | q
    · exact h.dis s (List.mem_of_getElem? hj) q
    · exact f1v hnd hj q
  · rw [c1c h.at_] at hy
    rcases List.mem_or_eq_of_mem_set hy with q | q
    · have:=h.nl y q;omega
    · subst q;exact hl
  · have e:=d84 h.at_ ((chN n ss fl x1 need).take j) s
    rw [List.take_add_one,hj]
    exact e
end
set_option maxRecDepth 8000 in
theorem f0i (l:List ByteArray) (s:ByteArray) (hl:l.length≤1048576) (hns:s ∉ l):Con Tryz.prog 211 [.sl (l.map V.str),.str s] [] (.ref 0) [.arr ((b5s l s).map V.str) .flat]:=by
 have hn1:∀m:Nat,((l.take m).map V.str).all V.noSl=true:=fun m=>by rw [List.all_map,List.all_eq_true];intro a _;rfl
 have hn2:∀m:Nat,((l.drop m).map V.str).all V.noSl=true:=fun m=>by rw [List.all_map,List.all_eq_true];intro a _;rfl
 refine b05 [.tmp 4] [] Tryz.func211 rfl rfl rfl (by simp [Tryz.ntmps211]) ?_
 intro Q0 n0 r0
 simp only [Tryz.ntmps211,b0l,Nat.reduceAdd]
 have T:=Tys.mk (ai Ty.t3 (ai Ty.t9 Ty.t51))
 have F:=Fc.mk True.intro
 have F:=Fc.mk (ai hn1 hn2)
 refine yR [0,1] ⟨?_⟩;refine yR [0,1,5] ⟨?_⟩;refine b0c ?_;intros;refine b0g ?_;intros;refine b08 (fun k=>⟨[(0,.sl (l.map V.str)),(1,.str s),(5,.int .i64 (Nat.cast k))],[],false,45,0⟩) (fun k=>k≤l.length∧k+c1i s (l.drop k)=c1i s l) (fun k=>l.length - k) 0 ?_ ?_ ?_
 ·refine b0b [0,1,5] [] ⟨?_⟩
  rfl
 ·exact ⟨Nat.zero_le _,by rw [List.drop_zero,Nat.zero_add]⟩
 ·rintro k hok5 Q5 n5 e5 r5
  obtain ⟨hk1,hR⟩:=hok5
  rcases Nat.lt_or_ge k l.length with hkl | hkl
  ·skip
   obtain ⟨x,hx⟩:∃x,l[k]? =some x:=⟨_,List.getElem?_eq_getElem hkl⟩
   have hlt:decide ((k:Int) < (l.length:Int))=true:=decide_eq_true (by omega)
   have hxs:decide (x=s)=false:=decide_eq_false fun e=>hns (e ▸ List.mem_of_getElem? hx)
   have htk:(l.take k).length=k:=by rw [List.length_take];omega
   refine b0c ?_;intros
   have F:=Fc.mk (ai hn1 (ai hn2 (ai (gdm hx) (ai hlt hxs))))
   refine yR [0,1,5,17] ⟨?_⟩;refine b0d _ rfl ?_ ?_
   ·intro hc0
    have hps:=f0x hx (s:=s) hc0
    refine zn [0,1,5] ⟨?_⟩;refine b0g ?_;intros;refine yV ⟨?_⟩;refine n5 _ (k+1) ?_ ?_ ?_
    ·refine b0b [0,1,5] [] ⟨?_⟩
     rfl
    ·exact ⟨hkl,by rw [←hps];exact hR⟩
    ·show _ < _;omega
   ·intro hc0
    have hpk:c1i s l=k:=by
     first
     |(have h:=d3y hx (s:=s) (by simpa using hc0);omega)
     |(have h:=d67 (s:=s) hkl;omega)
    have htk2:(l.take k).length=k:=by rw [List.length_take];omega
    have hdk2:(l.drop k).length=l.length - k:=List.length_drop
    have hca0:∀y∈(l.take k).map V.str++[V.str s],y.cells.length=1:=by
     intro y hy
     rcases List.mem_append.1 hy with h | h
     ·obtain ⟨_,_,rfl⟩:=List.mem_map.1 h;rfl
     ·rw [List.mem_singleton] at h;subst h;rfl
    simp only [V.cells] at hca0
    have hca:=eq_true hca0
    refine zn [0,1,5] ⟨?_⟩;refine b0c ?_;intros
    have F:=Fc.mk (ai hn1 (ai hn2 (ai (gdm hx) (ai hlt (ai hxs (ai htk2 (ai hdk2 hca)))))))
    refine yR [0,1,5,31] ⟨?_⟩;refine b1z _ rfl ?_ ?_
    ·intro hc1
     exfalso;simp at hc1
    ·intro hc1
     try simp only [zC,reduceCtorEq] at hc1
     refine zn [0,1,5] ⟨?_⟩;refine b0c ?_;intro Q14 n14 e14 r14;refine b1p (by kernel_rfl) ?_;intro K15 q15 k15
     show b14 _ _ _ _ 13 (Array.replicate 13 false) _
     refine b0o q15 true 1 34 ?_;refine b0o q15 true 2 35 ?_;refine b7m q15 true 3 36 ?_;refine b0o q15 false 5 38 ?_;refine b0o q15 false 8 41 ?_;refine b0o q15 false 9 42 ?_;refine b58 0 6 10 rfl rfl rfl (by kernel_rfl) ?_ ?_ ?_
     ·refine b1u ⟨?_⟩
      refine b58 4 6 10 rfl rfl rfl (by kernel_rfl) ?_ ?_ ?_
      ·refine b2v ⟨?_⟩
       refine b1s 6 10 rfl rfl (by kernel_rfl) ?_ ?_
       ·refine b1u ⟨?_⟩
        refine b1s 7 10 rfl rfl (by kernel_rfl) ?_ ?_
        ·refine b2v ⟨?_⟩
         refine b7m q15 true 10 43 ?_;refine b0u 11 ⟨?_⟩;refine b0t 12 ⟨?_⟩;refine b0j (by kernel_rfl) ?_;refine k15 _ ?_;refine n14 _ _ (b0f [4] _) ?_;refine zq1 ⟨?_⟩
         exact b1t rfl rfl (by rw [b5s,hpk];simp)
        ·refine b3i ⟨?_⟩
         refine b0u 7 ⟨?_⟩;refine b0u 11 ⟨?_⟩;refine b0t 12 ⟨?_⟩;refine b0j (by kernel_rfl) ?_;refine k15 _ ?_;refine n14 _ _ (b0f [4] _) ?_;refine zq1 ⟨?_⟩
         exact b1t rfl rfl (by rw [b5s,hpk];simp)
       ·refine b3i ⟨?_⟩
        refine b12 6 ⟨?_⟩;refine b0u 7 ⟨?_⟩;refine b0u 11 ⟨?_⟩;refine b0t 12 ⟨?_⟩;refine b0j (by kernel_rfl) ?_;refine k15 _ ?_;refine n14 _ _ (b0f [4] _) ?_;refine zq1 ⟨?_⟩
        exact b1t rfl rfl (by rw [b5s,hpk];simp)
      ·refine b1u ⟨?_⟩
       refine b1s 4 10 rfl rfl (by kernel_rfl) ?_ ?_
       ·refine b2v ⟨?_⟩
        refine b1s 7 10 rfl rfl (by kernel_rfl) ?_ ?_
        ·refine b2v ⟨?_⟩
         refine b7m q15 true 10 43 ?_;refine b0u 11 ⟨?_⟩;refine b0t 12 ⟨?_⟩;refine b0j (by kernel_rfl) ?_;refine k15 _ ?_;refine n14 _ _ (b0f [4] _) ?_;refine zq1 ⟨?_⟩
         exact b1t rfl rfl (by rw [b5s,hpk];simp)
        ·refine b3i ⟨?_⟩
         refine b0u 7 ⟨?_⟩;refine b0u 11 ⟨?_⟩;refine b0t 12 ⟨?_⟩;refine b0j (by kernel_rfl) ?_;refine k15 _ ?_;refine n14 _ _ (b0f [4] _) ?_;refine zq1 ⟨?_⟩
         exact b1t rfl rfl (by rw [b5s,hpk];simp)
       ·refine b3i ⟨?_⟩
        refine b0u 4 ⟨?_⟩;refine b0u 7 ⟨?_⟩;refine b0u 11 ⟨?_⟩;refine b0t 12 ⟨?_⟩;refine b0j (by kernel_rfl) ?_;refine k15 _ ?_;refine n14 _ _ (b0f [4] _) ?_;refine zq1 ⟨?_⟩
        exact b1t rfl rfl (by rw [b5s,hpk];simp)
      ·refine b3i ⟨?_⟩
       refine b1s 4 6 rfl rfl (by kernel_rfl) ?_ ?_
       ·refine b2v ⟨?_⟩
        refine b12 6 ⟨?_⟩;refine b0u 7 ⟨?_⟩;refine b0u 11 ⟨?_⟩;refine b0t 12 ⟨?_⟩;refine b0j (by kernel_rfl) ?_;refine k15 _ ?_;refine n14 _ _ (b0f [4] _) ?_;refine zq1 ⟨?_⟩
        exact b1t rfl rfl (by rw [b5s,hpk];simp)
       ·refine b1u ⟨?_⟩
        refine b0u 4 ⟨?_⟩;refine b0u 7 ⟨?_⟩;refine b0u 11 ⟨?_⟩;refine b0t 12 ⟨?_⟩;refine b0j (by kernel_rfl) ?_;refine k15 _ ?_;refine n14 _ _ (b0f [4] _) ?_;refine zq1 ⟨?_⟩
        exact b1t rfl rfl (by rw [b5s,hpk];simp)
     ·refine b1u ⟨?_⟩
      refine b1s 0 10 rfl rfl (by kernel_rfl) ?_ ?_
      ·refine b1u ⟨?_⟩
       refine b1s 4 10 rfl rfl (by kernel_rfl) ?_ ?_
       ·refine b2v ⟨?_⟩
        refine b1s 7 10 rfl rfl (by kernel_rfl) ?_ ?_
        ·refine b2v ⟨?_⟩
         refine b7m q15 true 10 43 ?_;refine b0u 11 ⟨?_⟩;refine b0t 12 ⟨?_⟩;refine b0j (by kernel_rfl) ?_;refine k15 _ ?_;refine n14 _ _ (b0f [4] _) ?_;refine zq1 ⟨?_⟩
         exact b1t rfl rfl (by rw [b5s,hpk];simp)
        ·refine b3i ⟨?_⟩
         refine b0u 7 ⟨?_⟩;refine b0u 11 ⟨?_⟩;refine b0t 12 ⟨?_⟩;refine b0j (by kernel_rfl) ?_;refine k15 _ ?_;refine n14 _ _ (b0f [4] _) ?_;refine zq1 ⟨?_⟩
         exact b1t rfl rfl (by rw [b5s,hpk];simp)
       ·refine b3i ⟨?_⟩
        refine b0u 4 ⟨?_⟩;refine b0u 7 ⟨?_⟩;refine b0u 11 ⟨?_⟩;refine b0t 12 ⟨?_⟩;refine b0j (by kernel_rfl) ?_;refine k15 _ ?_;refine n14 _ _ (b0f [4] _) ?_;refine zq1 ⟨?_⟩
        exact b1t rfl rfl (by rw [b5s,hpk];simp)
      ·refine b3i ⟨?_⟩
       refine b12 0 ⟨?_⟩;refine b0u 4 ⟨?_⟩;refine b0u 7 ⟨?_⟩;refine b0u 11 ⟨?_⟩;refine b0t 12 ⟨?_⟩;refine b0j (by kernel_rfl) ?_;refine k15 _ ?_;refine n14 _ _ (b0f [4] _) ?_;refine zq1 ⟨?_⟩
       exact b1t rfl rfl (by rw [b5s,hpk];simp)
     ·refine b3i ⟨?_⟩
      refine b1s 0 6 rfl rfl (by kernel_rfl) ?_ ?_
      ·refine b1u ⟨?_⟩
       refine b1s 4 6 rfl rfl (by kernel_rfl) ?_ ?_
       ·refine b2v ⟨?_⟩
        refine b12 6 ⟨?_⟩;refine b0u 7 ⟨?_⟩;refine b0u 11 ⟨?_⟩;refine b0t 12 ⟨?_⟩;refine b0j (by kernel_rfl) ?_;refine k15 _ ?_;refine n14 _ _ (b0f [4] _) ?_;refine zq1 ⟨?_⟩
        exact b1t rfl rfl (by rw [b5s,hpk];simp)
       ·refine b1u ⟨?_⟩
        refine b0u 4 ⟨?_⟩;refine b0u 7 ⟨?_⟩;refine b0u 11 ⟨?_⟩;refine b0t 12 ⟨?_⟩;refine b0j (by kernel_rfl) ?_;refine k15 _ ?_;refine n14 _ _ (b0f [4] _) ?_;refine zq1 ⟨?_⟩
        exact b1t rfl rfl (by rw [b5s,hpk];simp)
      ·refine b1u ⟨?_⟩
       refine b12 0 ⟨?_⟩;refine b0u 4 ⟨?_⟩;refine b0u 7 ⟨?_⟩;refine b0u 11 ⟨?_⟩;refine b0t 12 ⟨?_⟩;refine b0j (by kernel_rfl) ?_;refine k15 _ ?_;refine n14 _ _ (b0f [4] _) ?_;refine zq1 ⟨?_⟩
       exact b1t rfl rfl (by rw [b5s,hpk];simp)
  ·skip
   have hlt:decide ((k:Int) < (l.length:Int))=false:=decide_eq_false (by omega)
   refine b0c ?_;intros
   have F:=Fc.mk (ai hn1 (ai hn2 hlt))
   refine yR [0,1,5,17] ⟨?_⟩;refine b1z _ rfl ?_ ?_
   ·intro hc0
    exfalso;simp at hc0
   ·intro hc0
    try simp only [zC,reduceCtorEq] at hc0
    have hpk:c1i s l=k:=by
     first
     |(have h:=d3y hx (s:=s) (by simpa using hc0);omega)
     |(have h:=d67 (s:=s) hkl;omega)
    have htk2:(l.take k).length=k:=by rw [List.length_take];omega
    have hdk2:(l.drop k).length=l.length - k:=List.length_drop
    have hca0:∀y∈(l.take k).map V.str++[V.str s],y.cells.length=1:=by
     intro y hy
     rcases List.mem_append.1 hy with h | h
     ·obtain ⟨_,_,rfl⟩:=List.mem_map.1 h;rfl
     ·rw [List.mem_singleton] at h;subst h;rfl
    simp only [V.cells] at hca0
    have hca:=eq_true hca0
    refine zn [0,1,5] ⟨?_⟩;refine b0c ?_;intros
    have F:=Fc.mk (ai hn1 (ai hn2 (ai hlt (ai htk2 (ai hdk2 hca)))))
    refine yR [0,1,5,31] ⟨?_⟩;refine b1z _ rfl ?_ ?_
    ·intro hc1
     exfalso;simp at hc1
    ·intro hc1
     try simp only [zC,reduceCtorEq] at hc1
     refine zn [0,1,5] ⟨?_⟩;refine b0c ?_;intro Q22 n22 e22 r22;refine b1p (by kernel_rfl) ?_;intro K23 q23 k23
     show b14 _ _ _ _ 13 (Array.replicate 13 false) _
     refine b0o q23 true 1 34 ?_;refine b0o q23 true 2 35 ?_;refine b7m q23 true 3 36 ?_;refine b0o q23 false 5 38 ?_;refine b0o q23 false 8 41 ?_;refine b0o q23 false 9 42 ?_;refine b58 0 6 10 rfl rfl rfl (by kernel_rfl) ?_ ?_ ?_
     ·refine b1u ⟨?_⟩
      refine b58 4 6 10 rfl rfl rfl (by kernel_rfl) ?_ ?_ ?_
      ·refine b2v ⟨?_⟩
       refine b1s 6 10 rfl rfl (by kernel_rfl) ?_ ?_
       ·refine b1u ⟨?_⟩
        refine b1s 7 10 rfl rfl (by kernel_rfl) ?_ ?_
        ·refine b2v ⟨?_⟩
         refine b7m q23 true 10 43 ?_;refine b0u 11 ⟨?_⟩;refine b0t 12 ⟨?_⟩;refine b0j (by kernel_rfl) ?_;refine k23 _ ?_;refine n22 _ _ (b0f [4] _) ?_;refine zq1 ⟨?_⟩
         exact b1t rfl rfl (by rw [b5s,hpk];simp)
        ·refine b3i ⟨?_⟩
         refine b0u 7 ⟨?_⟩;refine b0u 11 ⟨?_⟩;refine b0t 12 ⟨?_⟩;refine b0j (by kernel_rfl) ?_;refine k23 _ ?_;refine n22 _ _ (b0f [4] _) ?_;refine zq1 ⟨?_⟩
         exact b1t rfl rfl (by rw [b5s,hpk];simp)
       ·refine b3i ⟨?_⟩
        refine b12 6 ⟨?_⟩;refine b0u 7 ⟨?_⟩;refine b0u 11 ⟨?_⟩;refine b0t 12 ⟨?_⟩;refine b0j (by kernel_rfl) ?_;refine k23 _ ?_;refine n22 _ _ (b0f [4] _) ?_;refine zq1 ⟨?_⟩
        exact b1t rfl rfl (by rw [b5s,hpk];simp)
      ·refine b1u ⟨?_⟩
       refine b1s 4 10 rfl rfl (by kernel_rfl) ?_ ?_
       ·refine b2v ⟨?_⟩
        refine b1s 7 10 rfl rfl (by kernel_rfl) ?_ ?_
        ·refine b2v ⟨?_⟩
         refine b7m q23 true 10 43 ?_;refine b0u 11 ⟨?_⟩;refine b0t 12 ⟨?_⟩;refine b0j (by kernel_rfl) ?_;refine k23 _ ?_;refine n22 _ _ (b0f [4] _) ?_;refine zq1 ⟨?_⟩
         exact b1t rfl rfl (by rw [b5s,hpk];simp)
        ·refine b3i ⟨?_⟩
         refine b0u 7 ⟨?_⟩;refine b0u 11 ⟨?_⟩;refine b0t 12 ⟨?_⟩;refine b0j (by kernel_rfl) ?_;refine k23 _ ?_;refine n22 _ _ (b0f [4] _) ?_;refine zq1 ⟨?_⟩
         exact b1t rfl rfl (by rw [b5s,hpk];simp)
       ·refine b3i ⟨?_⟩
        refine b0u 4 ⟨?_⟩;refine b0u 7 ⟨?_⟩;refine b0u 11 ⟨?_⟩;refine b0t 12 ⟨?_⟩;refine b0j (by kernel_rfl) ?_;refine k23 _ ?_;refine n22 _ _ (b0f [4] _) ?_;refine zq1 ⟨?_⟩
        exact b1t rfl rfl (by rw [b5s,hpk];simp)
      ·refine b3i ⟨?_⟩
       refine b1s 4 6 rfl rfl (by kernel_rfl) ?_ ?_
       ·refine b2v ⟨?_⟩
        refine b12 6 ⟨?_⟩;refine b0u 7 ⟨?_⟩;refine b0u 11 ⟨?_⟩;refine b0t 12 ⟨?_⟩;refine b0j (by kernel_rfl) ?_;refine k23 _ ?_;refine n22 _ _ (b0f [4] _) ?_;refine zq1 ⟨?_⟩
        exact b1t rfl rfl (by rw [b5s,hpk];simp)
       ·refine b1u ⟨?_⟩
        refine b0u 4 ⟨?_⟩;refine b0u 7 ⟨?_⟩;refine b0u 11 ⟨?_⟩;refine b0t 12 ⟨?_⟩;refine b0j (by kernel_rfl) ?_;refine k23 _ ?_;refine n22 _ _ (b0f [4] _) ?_;refine zq1 ⟨?_⟩
        exact b1t rfl rfl (by rw [b5s,hpk];simp)
     ·refine b1u ⟨?_⟩
      refine b1s 0 10 rfl rfl (by kernel_rfl) ?_ ?_
      ·refine b1u ⟨?_⟩
       refine b1s 4 10 rfl rfl (by kernel_rfl) ?_ ?_
       ·refine b2v ⟨?_⟩
        refine b1s 7 10 rfl rfl (by kernel_rfl) ?_ ?_
        ·refine b2v ⟨?_⟩
         refine b7m q23 true 10 43 ?_;refine b0u 11 ⟨?_⟩;refine b0t 12 ⟨?_⟩;refine b0j (by kernel_rfl) ?_;refine k23 _ ?_;refine n22 _ _ (b0f [4] _) ?_;refine zq1 ⟨?_⟩
         exact b1t rfl rfl (by rw [b5s,hpk];simp)
        ·refine b3i ⟨?_⟩
         refine b0u 7 ⟨?_⟩;refine b0u 11 ⟨?_⟩;refine b0t 12 ⟨?_⟩;refine b0j (by kernel_rfl) ?_;refine k23 _ ?_;refine n22 _ _ (b0f [4] _) ?_;refine zq1 ⟨?_⟩
         exact b1t rfl rfl (by rw [b5s,hpk];simp)
       ·refine b3i ⟨?_⟩
        refine b0u 4 ⟨?_⟩;refine b0u 7 ⟨?_⟩;refine b0u 11 ⟨?_⟩;refine b0t 12 ⟨?_⟩;refine b0j (by kernel_rfl) ?_;refine k23 _ ?_;refine n22 _ _ (b0f [4] _) ?_;refine zq1 ⟨?_⟩
        exact b1t rfl rfl (by rw [b5s,hpk];simp)
      ·refine b3i ⟨?_⟩
       refine b12 0 ⟨?_⟩;refine b0u 4 ⟨?_⟩;refine b0u 7 ⟨?_⟩;refine b0u 11 ⟨?_⟩;refine b0t 12 ⟨?_⟩;refine b0j (by kernel_rfl) ?_;refine k23 _ ?_;refine n22 _ _ (b0f [4] _) ?_;refine zq1 ⟨?_⟩
       exact b1t rfl rfl (by rw [b5s,hpk];simp)
     ·refine b3i ⟨?_⟩
      refine b1s 0 6 rfl rfl (by kernel_rfl) ?_ ?_
      ·refine b1u ⟨?_⟩
       refine b1s 4 6 rfl rfl (by kernel_rfl) ?_ ?_
       ·refine b2v ⟨?_⟩
        refine b12 6 ⟨?_⟩;refine b0u 7 ⟨?_⟩;refine b0u 11 ⟨?_⟩;refine b0t 12 ⟨?_⟩;refine b0j (by kernel_rfl) ?_;refine k23 _ ?_;refine n22 _ _ (b0f [4] _) ?_;refine zq1 ⟨?_⟩
        exact b1t rfl rfl (by rw [b5s,hpk];simp)
       ·refine b1u ⟨?_⟩
        refine b0u 4 ⟨?_⟩;refine b0u 7 ⟨?_⟩;refine b0u 11 ⟨?_⟩;refine b0t 12 ⟨?_⟩;refine b0j (by kernel_rfl) ?_;refine k23 _ ?_;refine n22 _ _ (b0f [4] _) ?_;refine zq1 ⟨?_⟩
        exact b1t rfl rfl (by rw [b5s,hpk];simp)
      ·refine b1u ⟨?_⟩
       refine b12 0 ⟨?_⟩;refine b0u 4 ⟨?_⟩;refine b0u 7 ⟨?_⟩;refine b0u 11 ⟨?_⟩;refine b0t 12 ⟨?_⟩;refine b0j (by kernel_rfl) ?_;refine k23 _ ?_;refine n22 _ _ (b0f [4] _) ?_;refine zq1 ⟨?_⟩
       exact b1t rfl rfl (by rw [b5s,hpk];simp)
set_option maxRecDepth 8000 in
theorem f16 (l:List TI) (k:Nat) (s:ByteArray) (x0:Int) (x1:Int) (x2:Bool) (x3:List ByteArray) (hl:l.length≤1048576) (hli:∀x∈l,x.2.2.2.length≤1048576) (hk:l[k]? =some (x0,x1,x2,x3)) (hns:s ∉ x3):Con Tryz.prog 156 [.sl (l.map (fun t:TI=>V.agg [V.int .i64 t.1,V.int .i64 t.2.1,V.bool t.2.2.1,V.sl (t.2.2.2.map V.str)])),.int .i64 (Nat.cast k),.str s] [] (.ref 0) [.arr ((l.set k (x0,x1,x2,b5s x3 s)).map (fun t:TI=>V.agg [V.int .i64 t.1,V.int .i64 t.2.1,V.bool t.2.2.1,V.sl (t.2.2.2.map V.str)])) .deep]:=by
 have hkl:=(List.getElem?_eq_some_iff.1 hk).1
 have hnl:=hli _ (List.mem_of_getElem? hk)
 simp only [] at hnl
 have hfin:(l.map (fun t:TI=>V.agg [V.int .i64 t.1,V.int .i64 t.2.1,V.bool t.2.2.1,V.sl (t.2.2.2.map V.str)])).set k (V.agg [V.int .i64 x0,V.int .i64 x1,V.bool x2,V.sl ((b5s x3 s).map V.str)])=(l.set k (x0,x1,x2,b5s x3 s)).map (fun t:TI=>V.agg [V.int .i64 t.1,V.int .i64 t.2.1,V.bool t.2.2.1,V.sl (t.2.2.2.map V.str)]):=by have q:=List.map_set (f:=(fun t:TI=>V.agg [V.int .i64 t.1,V.int .i64 t.2.1,V.bool t.2.2.1,V.sl (t.2.2.2.map V.str)])) (l:=l) (i:=k) (a:=(x0,x1,x2,b5s x3 s));exact q.symm
 refine b05 [.tmp 6] [] Tryz.func156 rfl rfl rfl (by simp [Tryz.ntmps156]) ?_
 intro Q0 n0 r0
 simp only [Tryz.ntmps156,b0l,Nat.reduceAdd]
 have T:=Tys.mk (ai Ty.t3 (ai Ty.t4 (ai Ty.t9 (ai Ty.t33 (ai Ty.t51 Ty.t99)))))
 have F:=Fc.mk True.intro
 have F:=Fc.mk (ai @Int.toNat_natCast (ai (gdm hk) hfin))
 refine yR [0,1,2] ⟨?_⟩;refine b0c ?_;intro Q2 n2 e2 r2;refine yVc (b3p l hl hli) ⟨?_⟩
 apply n2
 ·apply b1i (b0f [1,2,7] _)
  simp only [b0s,b0k,b0h,b0i,b0n,Nat.reduceEqDiff,reduceIte]
  exact b1i (d0n 1 l.length _ rfl) d12
 try simp only [b1r,b1y,Nat.reduceEqDiff,reduceIte,List.set_cons_zero,List.set_cons_succ]
 refine yR [1,2,7,8] ⟨?_⟩;refine yRc [1,7,8] (f0i x3 s hnl hns) ⟨?_⟩;refine yR [7] ⟨?_⟩;refine yR [6] ⟨?_⟩;refine zr ⟨?_⟩
 exact rta
set_option maxRecDepth 100000 in
theorem d71 (n:Int) (ss:List TS) (fl:List TA) (ins:List TI) (ws:List TW) (k:Nat) (x0:Int) (x1:Int) (x2:Bool) (x3:List ByteArray) (need:List Int) (hS:SendOK n ss fl ins k (x0,x1,x2,x3) need) (hwl:ws.length≤1048576) (hwn:∀x∈ws,x.2.length≤1048576):Con Tryz.prog 84 [.agg [.int .i64 n,.sl (ss.map (fun t:TS=>V.agg [V.int .i64 t.1,V.int .i64 t.2.1,V.int .i64 t.2.2]))],.agg [.sl (fl.map (fun t:TA=>V.agg [V.str t.1,V.int .i64 t.2.1,V.int .i64 t.2.2.1,V.int .i64 t.2.2.2.1,V.int .i64 t.2.2.2.2])),.sl (ins.map (fun t:TI=>V.agg [V.int .i64 t.1,V.int .i64 t.2.1,V.bool t.2.2.1,V.sl (t.2.2.2.map V.str)])),.sl (ws.map (fun t:TW=>V.agg [V.int .i64 t.1,V.sl (t.2.map (V.int .i64))]))],.int .i64 (Nat.cast k),.sl (need.map (V.int .i64))] [] (.tup [.agg [.ref 0,.ref 1,.ref 2],.ref 3,.ref 4]) [.arr ((chF n ss fl x1 need).map (fun t:TA=>V.agg [V.str t.1,V.int .i64 t.2.1,V.int .i64 t.2.2.1,V.int .i64 t.2.2.2.1,V.int .i64 t.2.2.2.2])) .flat,.arr ((b5u k ins (chN n ss fl x1 need)).map (fun t:TI=>V.agg [V.int .i64 t.1,V.int .i64 t.2.1,V.bool t.2.2.1,V.sl (t.2.2.2.map V.str)])) (b1v ins.length),.arr (ws.map (fun t:TW=>V.agg [V.int .i64 t.1,V.sl (t.2.map (V.int .i64))])) (b1v ws.length),.arr ((chN n ss fl x1 need).map V.str) .flat,.arr ((chL n ss fl x1 need).map (V.int .i64)) .flat]:=by
 have hil:=hS.il
 have hfl12:=hS.ds.hfl
 have hkl:=(List.getElem?_eq_some_iff.1 hS.at_).1
 have hin:∀x∈ins,x.2.2.2.length≤1048576:=fun x hx=>Nat.le_trans (hS.nl x hx) (by decide)
 have hnd2:=hS.node
 have hne2:=hS.nd4
 simp only [] at hnd2
 have hcl:=d5k (node:=x1) (need:=need) hS.ds
 have hco:=f5d (node:=x1) hS.ds hne2
 have hfk:b1v ins.length=.deep:=by unfold b1v;rw [if_neg (by omega)]
 refine b05 [.cell 8 36,.tmp 9,.tmp 10] [] Tryz.func84 rfl rfl rfl (by simp [Tryz.ntmps84]) ?_
 intro Q0 n0 r0
 simp only [Tryz.ntmps84,b0l,Nat.reduceAdd]
 have T:=Tys.mk (ai Ty.t3 (ai Ty.t4 (ai Ty.t9 (ai Ty.t32 (ai Ty.t33 (ai Ty.t34 (ai Ty.t36 (ai Ty.t39 (ai Ty.t41 (ai Ty.t51 (ai Ty.t75 (ai Ty.t96 (ai Ty.t99 (ai Ty.t102 Ty.t169))))))))))))))
 have F:=Fc.mk True.intro
 have F:=Fc.mk (ai @Int.toNat_natCast (gdm hS.at_))
 refine yR [2,3,4,5,8] ⟨?_⟩;refine b0c ?_;intro Q2 n2 e2 r2;refine b1p (by kernel_rfl) ?_;intro K3 q3 k3
 show b14 _ _ _ _ 18 (Array.replicate 18 false) _
 refine b2w q3 true 0 20 ?_;refine b0p q3 true 1 21 ?_;refine b2w q3 true 2 22 ?_;refine b0p q3 true 3 23 ?_;refine b2w q3 true 4 24 ?_;refine b0o q3 true 5 25 ?_;refine b07 q3 true 6 26 ?_;refine b0p q3 true 7 27 ?_;refine b2w q3 true 8 28 ?_;refine b0o q3 true 9 29 ?_;refine zoc 10 (d70 n ss fl x1 need hS.ds hnd2 hne2) ⟨?_⟩;refine b0o q3 true 11 19 ?_;refine b1f q3 true 12 31 ?_;refine b1f q3 true 13 32 ?_;refine b1f q3 true 14 33 ?_;refine b0t 15 ⟨?_⟩;refine b0t 16 ⟨?_⟩;refine b0t 17 ⟨?_⟩;refine b0j (by kernel_rfl) ?_;refine k3 _ ?_;refine n2 _ _ (b0f [2,5,8,11,12] _) ?_;refine zk ⟨?_⟩;refine yRc [2,5,8,11,12,14] (d19 fl ins ws (by omega) (by omega) hin hwl hwn) ⟨?_⟩;refine yRc [2,8,12,14,15,16] (d9y fl (chO n ss fl x1 need) (by omega) (by omega)) ⟨?_⟩;refine yR [2,8,12,14,16] ⟨?_⟩;refine b0c ?_;intros;refine yR [2,8,12,14,16,45,46,47] ⟨?_⟩;refine b0g ?_;intros;refine b08 (fun j=>⟨[(2,.int .i64 (Nat.cast k)),(8,.ptr 3 0 0),(12,.ref 4),(14,.ptr 8 0 0),(16,.ref 9),(45,.ref 9),(46,.int .i64 (chN n ss fl x1 need).length),(47,.int .i64 (Nat.cast j))],[.arr [] .flat,.arr [] .flat,.arr [] .flat,.box (.agg [.ref 0,.ref 1,.ref 2]) .mix,.arr ((chL n ss fl x1 need).map (V.int .i64)) .flat,.arr ((chF n ss fl x1 need).map (fun t:TA=>V.agg [V.str t.1,V.int .i64 t.2.1,V.int .i64 t.2.2.1,V.int .i64 t.2.2.2.1,V.int .i64 t.2.2.2.2])) .flat,.arr ((b5u k ins ((chN n ss fl x1 need).take j)).map (fun t:TI=>V.agg [V.int .i64 t.1,V.int .i64 t.2.1,V.bool t.2.2.1,V.sl (t.2.2.2.map V.str)])) .deep,.arr (ws.map (fun t:TW=>V.agg [V.int .i64 t.1,V.sl (t.2.map (V.int .i64))])) (b1v ws.length),.box (.agg [.ref 5,.ref 6,.ref 7]) .mix,.arr ((chN n ss fl x1 need).map V.str) .flat],false,61,0⟩) (fun j=>j≤(chN n ss fl x1 need).length) (fun j=>(chN n ss fl x1 need).length - j) 0 ?_ ?_ ?_
 ·refine b4j [2,8,12,14,16,45,46,47] [2,3,4,5,9,18,12,13,17,19] ⟨?_⟩
  rw [List.take_zero,d3m hS.at_,hfk];rfl
 ·exact Nat.zero_le _
 ·rintro j hok10 Q10 n10 e10 r10
  have hj1:j≤(chN n ss fl x1 need).length:=hok10
  refine yR [2,8,12,14,16,45,46,47,48] ⟨?_⟩;refine b0c ?_;intros;refine b0d _ rfl ?_ ?_
  ·intro hc0
   have hlt:j < (chN n ss fl x1 need).length:=by omega
   obtain ⟨s,hs⟩:∃s,(chN n ss fl x1 need)[j]? =some s:=⟨_,List.getElem?_eq_getElem hlt⟩
   obtain ⟨h1,h2,h3,h4,h5,h6,h7⟩:=d13 hS hs
   refine zn [2,8,12,14,16,45,46,47] ⟨?_⟩;refine b0c ?_;intros;refine b0g ?_;intros
   have F:=Fc.mk (ai @Int.toNat_natCast (ai (gdm hS.at_) (gdm hs)))
   refine yR [2,8,12,14,16,18,45,46,47] ⟨?_⟩;refine yQc [2,8,12,14,16,45,46,47] (f16 (b5u k ins ((chN n ss fl x1 need).take j)) k s x0 x1 x2 (b3y x3 ((chN n ss fl x1 need).take j)) (by omega) (fun y hy=>Nat.le_trans (h6 y hy) (by decide)) h4 h1) ⟨?_⟩;refine yV ⟨?_⟩;refine n10 _ (j+1) ?_ ?_ ?_
   ·refine b4j [2,8,12,14,16,45,46,47] [0,1,2,3,4,5,10,7,8,9] ⟨?_⟩
    rw [h7];rfl
   ·exact hlt
   ·show _ < _;omega
  ·intro hc0
   have hje:(chN n ss fl x1 need).take j=(chN n ss fl x1 need):=List.take_of_length_le (by omega)
   refine zn [8,12,14,16] ⟨?_⟩;refine yR [8,9,10] ⟨?_⟩;refine zq3 ⟨?_⟩
   rw [hje,hfk]
   exact rta
theorem f5h {α:Type} [DecidableEq α]:∀{l m:List α},l.Nodup→(∀x∈l,x∈m)→l.length≤m.length
  | [],m,_,_=>Nat.zero_le _
  | x::l,m,hn,hs=>by
    have hn':=List.nodup_cons.1 hn
    have hx:=hs x (List.mem_cons_self ..)
    have:=f5h (l:=l) (m:=m.erase x) hn'.2 fun y hy=>(List.mem_erase_of_ne (a:=y) (b:=x) (fun e=>hn'.1 (by rw [←e];exact hy))).2 (hs y (List.mem_cons_of_mem _ hy))
    rw [List.length_erase_of_mem hx] at this
    have h0:0 < m.length:=List.length_pos_of_mem hx
    rw [List.length_cons];omega
section
variable {n:Int} {ss:List TS} {fl:List TA} {ins:List TI} {ws:List TW} {need:List Int}
theorem f0n (h:CtlProp n ss fl ins ws):DsFacts n ss fl:=by
  obtain ⟨t1,t2,t3⟩:=b81 h.town
  refine ⟨t1,t2,t3,h.fl12,fun a ha=> ?_,h.srt⟩
  have:=h.ap a ha
  simp only [c49,Bool.and_eq_true,decide_eq_true_eq] at this
  exact ⟨this.1.1.1.2,h.has a ha⟩
theorem d83 (h:CtlProp n ss fl ins ws) {a:TA} (ha:a∈fl) (hv:b2h a=true):∀x∈ins,a.1 ∉ x.2.2.2:=by
  intro x hx hs
  have hb:=(h.busy a ha).2 ⟨x,hx,hs⟩
  simp only [b2h,Bool.and_eq_true,Bool.or_eq_true,decide_eq_true_eq] at hv
  omega
theorem d23 (h:CtlProp n ss fl ins ws) (hn:need.length=4∧∀v∈need,0≤v∧v≤6) {node:Int} {s:ByteArray} (hs:s∈chN n ss fl node need):∀x∈ins,s ∉ x.2.2.2:=by
  obtain ⟨k,a,h1,h2,rfl⟩:=d50 hs
  obtain ⟨k',a',e,h3,_,h4,_⟩:=f17 (f0n h) hn h1
  have:k=k':=by omega
  subst this
  rw [h2] at h3;cases h3
  exact d83 h (List.mem_of_getElem? h2) h4
theorem f2d (h:CtlProp n ss fl ins ws) {k:Nat} {x:TI} (hk:ins[k]? =some x) (hn:need.length=4∧∀v∈need,0≤v∧v≤6):SendOK n ss fl ins k x need:=by
  have hx:=List.mem_of_getElem? hk
  exact ⟨f0n h,hk,h.node x hx,hn,(h.inc.each x hx).srt,fun s hs=>d23 h hn hs x hx,(h.inc.each x hx).len,h.inc.len,fun y hy=>(h.inc.each y hy).len⟩
theorem d4a (fl:List TA) (order:List Int):∀m i,m≤fl.length→i < m→(b2x fl order m)[i]? =(fl[i]?).map fun a=>if (i:Int)∈order then b5o a else a
  | 0,i,_,h=>by omega
  | m + 1,i,hm,hi=>by
    have hl:=b6b fl order m (by omega)
    have ha:fl[m]? =some fl[m]:=List.getElem?_eq_getElem (by omega)
    rw [b2x,ha]
    by_cases e:i < m
    · rw [List.getElem?_append_left (by omega)]
      exact d4a fl order m i (by omega) e
    · have:i=m:=by omega
      subst this
      rw [List.getElem?_append_right (by omega),hl,Nat.sub_self,ha];rfl
theorem d7c {node:Int} (m:Nat):(chF n ss fl node need)[m]? =(fl[m]?).map fun a=>if (m:Int)∈chO n ss fl node need then b5o a else a:=by
  rcases Nat.lt_or_ge m fl.length with q | q
  · exact d4a fl _ _ m (Nat.le_refl _) q
  · rw [List.getElem?_eq_none (by rw [chF,b6b fl _ _ (Nat.le_refl _)];exact q),List.getElem?_eq_none q];rfl
theorem c6z {node:Int}:(chF n ss fl node need).length=fl.length:=b6b fl _ _ (Nat.le_refl _)
theorem d4p {node:Int} {b:TA} (h:b∈chF n ss fl node need):∃(m:Nat) (a:TA),fl[m]? =some a∧b=if (m:Int)∈chO n ss fl node need then b5o a else a:=by
  obtain ⟨m,hm,rfl⟩:=List.mem_iff_getElem.1 h
  have e:=d7c (n:=n) (ss:=ss) (fl:=fl) (node:=node) (need:=need) m
  rw [List.getElem?_eq_getElem hm] at e
  have hl:m < fl.length:=by rwa [c6z] at hm
  rw [List.getElem?_eq_getElem hl] at e
  exact ⟨m,fl[m],List.getElem?_eq_getElem hl,Option.some.inj e⟩
theorem b9o (a:TA) (p:Prop) [Decidable p]:(if p then b5o a else a).1=a.1:=by split<;>rfl
theorem f5p (h:CtlProp n ss fl ins ws) {node:Int} {m:Nat} {a:TA} (hm:fl[m]? =some a):a.1∈chN n ss fl node need↔(m:Int)∈chO n ss fl node need:=by
  constructor
  · intro hs
    obtain ⟨k,b,h1,h2,e⟩:=d50 hs
    have:k=m:=f0a h.srt h2 hm e
    subst this;exact h1
  · intro ho
    have hl:=(List.getElem?_eq_some_iff.1 hm).1
    rw [c8o]
    refine List.mem_map.2 ⟨(m:Int),?_,by rw [nameAt,Int.toNat_natCast,hm]⟩
    rw [b6l,List.mem_filter,decide_eq_true_eq]
    exact ⟨List.mem_map.2 ⟨m,List.mem_range.2 hl,rfl⟩,ho⟩
theorem f1c (h:CtlProp n ss fl ins ws) {k:Nat} {x:TI} (hk:ins[k]? =some x) (ho:x.2.2.1=false) (hn:need.length=4∧∀v∈need,0≤v∧v≤6):CtlProp n ss (chF n ss fl x.2.1 need) (b5u k ins (chN n ss fl x.2.1 need)) ws:=by
  have hS:=f2d h hk hn
  have hxm:=List.mem_of_getElem? hk
  have hxi:=h.inc.each x hxm
  have hkl:=(List.getElem?_eq_some_iff.1 hk).1
  obtain ⟨N,hN⟩:∃N,N=chN n ss fl x.2.1 need:=⟨_,rfl⟩
  have hfree:∀s∈N,∀y∈ins,s ∉ y.2.2.2:=fun s hs=>d23 h hn (by rw [←hN];exact hs)
  have hnd:N.Nodup:=by rw [hN];exact f4x (f0n h)
  have hNf:∀s∈N,∃a∈fl,a.1=s:=fun s hs=>by
    rw [hN] at hs
    obtain ⟨m,a,_,h2,e⟩:=d50 hs
    exact ⟨a,List.mem_of_getElem? h2,e⟩
  rw [←hN,c1c hk]
  let x':TI:=(x.1,x.2.1,x.2.2.1,b3y x.2.2.2 N)
  have hsrt:(b3y x.2.2.2 N).Pairwise (fun a b=>b2f a b=true):=c3v hxi.srt hnd fun s hs=>hfree s hs x hxm
  have hin:∀z∈ins.set k x',z=x'∨∃i,i≠k∧ins[i]? =some z:=fun z hz=>f6f hz
  have hmem:x'∈ins.set k x':=List.mem_iff_getElem.2 ⟨k,by rw [List.length_set];exact hkl,List.getElem_set_self ..⟩
  have hold:∀i z,i≠k→ins[i]? =some z→z∈ins.set k x':=fun i z q hi=>List.mem_of_getElem? (by rw [List.getElem?_set_ne (fun e=>q e.symm)];exact hi)
  have hfl:∀s,(∃a∈fl,a.1=s)→∃b∈chF n ss fl x.2.1 need,b.1=s:=by
    rintro s ⟨a,ha,rfl⟩
    obtain ⟨m,hm,rfl⟩:=List.mem_iff_getElem.1 ha
    have e:=d7c (n:=n) (ss:=ss) (fl:=fl) (node:=x.2.1) (need:=need) m
    rw [List.getElem?_eq_getElem hm] at e
    exact ⟨_,List.mem_of_getElem? e,b9o ..⟩
  have hxl:∀s∈b3y x.2.2.2 N,∃a∈fl,a.1=s:=fun s hs=>(b4u.1 hs).elim (h.names x hxm s) (hNf s)
  have hpl:(b3y x.2.2.2 N).length≤12:=by
    have h1:(b3y x.2.2.2 N).Nodup:=hsrt.imp fun q=>f3b q
    have h2:=f5h h1 (m:=fl.map (·.1)) fun s hs=>by
      obtain ⟨a,ha,e⟩:=hxl s hs
      exact List.mem_map.2 ⟨a,ha,e⟩
    rw [List.length_map] at h2
    exact Nat.le_trans h2 h.fl12
  refine ⟨h.town,fun b hb=> ?_,?_,by rw [c6z];exact h.fl12,fun b hb=> ?_,⟨fun z hz=> ?_,f3n h.inc.num hk (fun z q=>q) (fun z q=>q),?_,by rw [List.length_set];exact h.inc.len⟩,h.ws8,fun z hz=> ?_,fun z hz s hs=> ?_,fun b hb=> ?_,fun w hw=> ?_,h.wsrt⟩
  · obtain ⟨m,a,hm,rfl⟩:=d4p hb
    have ha:=h.ap a (List.mem_of_getElem? hm)
    split
    · show c49 (a.1,a.2.1,a.2.2.1,a.2.2.2.1,1)=true
      simp only [c49,Bool.and_eq_true,decide_eq_true_eq] at ha⊢
      exact ⟨ha.1,by omega⟩
    · exact ha
  · refine List.pairwise_iff_getElem.2 fun i j hi hj hij=> ?_
    have hp:=List.pairwise_iff_getElem.1 h.srt
    rw [c6z] at hi hj
    have e1:=d7c (n:=n) (ss:=ss) (fl:=fl) (node:=x.2.1) (need:=need) i
    have e2:=d7c (n:=n) (ss:=ss) (fl:=fl) (node:=x.2.1) (need:=need) j
    rw [List.getElem?_eq_getElem hi,List.getElem?_eq_getElem (by rw [c6z];exact hi)] at e1
    rw [List.getElem?_eq_getElem hj,List.getElem?_eq_getElem (by rw [c6z];exact hj)] at e2
    rw [Option.some.inj e1,Option.some.inj e2,b9o,b9o]
    exact hp i j hi hj hij
  · obtain ⟨m,a,hm,rfl⟩:=d4p hb
    have:=h.has a (List.mem_of_getElem? hm)
    split<;>exact this
  · rcases hin z hz with rfl | ⟨i,_,hi⟩
    · have hcl:x'.2.2.1=true→x'.2.2.2=[]:=fun q=>by rw [show x'.2.2.1=x.2.2.1 from rfl,ho] at q;cases q
      have hnm:∀s∈x'.2.2.2,b5t s=true:=by
        intro s hs
        rcases b4u.1 hs with q | q
        · exact hxi.nm s q
        · obtain ⟨a,ha,rfl⟩:=hNf s q
          have:=h.ap a ha
          simp only [c49,Bool.and_eq_true] at this
          exact this.1.1.1.1
      exact ⟨hxi.num,hxi.node,hpl,hcl,hnm,hsrt⟩
    · exact h.inc.each z (List.mem_of_getElem? hi)
  · refine List.pairwise_iff_getElem.2 fun i j hi hj hij=> ?_
    rw [List.length_set] at hi hj
    have hp:=List.pairwise_iff_getElem.1 h.inc.dis
    have hxk:ins[k]=x:=(List.getElem?_eq_some_iff.1 hk).2
    rw [List.getElem_set,List.getElem_set]
    by_cases e1:k=i
    · subst e1
      rw [if_pos rfl,if_neg (by omega)]
      intro s hs q
      rcases b4u.1 q with q | q
      · have:=hp k j hi hj hij s hs;rw [hxk] at this;exact this q
      · exact hfree s q _ (List.getElem_mem hj) hs
    · rw [if_neg e1]
      by_cases e2:k=j
      · subst e2
        rw [if_pos rfl]
        intro s hs q
        rcases b4u.1 hs with z | z
        · exact hp i k hi hj hij s (by rw [hxk];exact z) q
        · exact hfree s z _ (List.getElem_mem hi) q
      · rw [if_neg e2];exact hp i j hi hj hij
  · rcases hin z hz with rfl | ⟨i,_,hi⟩
    · exact h.node x hxm
    · exact h.node z (List.mem_of_getElem? hi)
  · rcases hin z hz with rfl | ⟨i,_,hi⟩
    · exact hfl s (hxl s hs)
    · exact hfl s (h.names z (List.mem_of_getElem? hi) s hs)
  · obtain ⟨m,a,hm,rfl⟩:=d4p hb
    have ham:=List.mem_of_getElem? hm
    have hiff:=f5p h (node:=x.2.1) (need:=need) hm
    rw [←hN] at hiff
    rw [b9o]
    by_cases hc:(m:Int)∈chO n ss fl x.2.1 need
    · rw [if_pos hc]
      exact ⟨fun _=>⟨x',hmem,b4u.2 (.inr (hiff.2 hc))⟩,fun _=>by simp [b5o]⟩
    · rw [if_neg hc,h.busy a ham]
      constructor
      · rintro ⟨y,hy,hs⟩
        obtain ⟨i,hi,rfl⟩:=List.mem_iff_getElem.1 hy
        by_cases e:i=k
        · subst e
          refine ⟨x',hmem,b4u.2 (.inl ?_)⟩
          rwa [(List.getElem?_eq_some_iff.1 hk).2] at hs
        · exact ⟨ins[i],hold i _ e (List.getElem?_eq_getElem hi),hs⟩
      · rintro ⟨y,hy,hs⟩
        rcases hin y hy with rfl | ⟨i,_,hi⟩
        · rcases b4u.1 hs with q | q
          · exact ⟨x,hxm,q⟩
          · exact absurd (hiff.1 q) hc
        · exact ⟨y,List.mem_of_getElem? hi,hs⟩
  · obtain ⟨⟨y,hy,e1,e2⟩,hr⟩:=h.want w hw
    refine ⟨?_,hr⟩
    obtain ⟨i,hi,rfl⟩:=List.mem_iff_getElem.1 hy
    by_cases e:i=k
    · subst e
      refine ⟨x',hmem,?_,?_⟩
      · rw [←e1,(List.getElem?_eq_some_iff.1 hk).2]
      · exact ho
    · exact ⟨ins[i],hold i _ e (List.getElem?_eq_getElem hi),e1,e2⟩
end
theorem c2o {n:Int} {ss:List TS} {fl:List TA} {node:Int} {need:List Int} (hn:need.length=4∧∀v∈need,0≤v∧v≤6):(chL n ss fl node need).length=4∧∀v∈chL n ss fl node need,0≤v∧v≤6:=by
  have h:=b62 (fl:=fl) hn (b8a fl (tmL n ss node))
  exact ⟨h.1,h.2.1⟩
theorem f15:∀(l:List Int) (a:Int),0≤a→0≤b8q l a
  | [],a,h=>h
  | y::l,a,h=>by
    show 0≤b8q l (if y > a then y else a)
    refine f15 l _ ?_
    split<;>omega
theorem d6w {l:List Int} (h:l.length=4∧∀v∈l,0≤v∧v≤6):c2f l=true:=by
  simp only [c2f,Bool.and_eq_true,decide_eq_true_eq,List.all_eq_true,inR]
  exact ⟨by omega,h.2⟩
theorem f5n {x:Int} {l:List Int} (h:c2f (x::l)=true):(0 < b8q l x)↔(x::l).all (fun x:Int=>inR x 0 0)=false:=by
  have h1:=d01 h
  have h2:=f15 l x ((b7n h).2 x (List.mem_cons_self ..)).1
  rw [←h1,decide_eq_false_iff_not]
  omega
end Go.Proofs.YtaefoaghpehbpaaGreat
