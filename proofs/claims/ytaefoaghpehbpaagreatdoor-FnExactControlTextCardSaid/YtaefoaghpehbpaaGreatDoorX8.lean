/- What functions compute. No condition. -/
import Derived.Test.YtaefoaghpehbpaaGreatDoorUz
import Derived.Test.YtaefoaghpehbpaaGreatDoorUty
import Derived.Test.YtaefoaghpehbpaaGreatDoorUmG
import Derived.Test.YtaefoaghpehbpaaGreatDoorX1
import Derived.Test.YtaefoaghpehbpaaGreatDoorX6
import Derived.Test.YtaefoaghpehbpaaGreatDoorX3
import Derived.Test.YtaefoaghpehbpaaGreatDoorX5
import Derived.Test.YtaefoaghpehbpaaGreatDoorX7
set_option linter.unusedSimpArgs false
set_option linter.unusedVariables false
set_option linter.defProp false
namespace Go.Proofs.YtaefoaghpehbpaaGreatDoor
open Go Go.Vm
def incOK (x:(Int×Int×Bool×List ByteArray)):Bool:=(decide (1≤x.1) && decide (x.1≤999)) && (decide (0≤x.2.1) && decide (x.2.1≤13)) && !decide (12 < (x.2.2.2.length:Int)) && !(x.2.2.1 && decide (0 < (x.2.2.2.length:Int))) && chainAt nameB strLt x.2.2.2 0
def clashB (pre:List (Int×Int×Bool×List ByteArray)) (x:(Int×Int×Bool×List ByteArray)):Bool:=x.2.2.2.any fun s=>pre.any fun y=>inS s y.2.2.2
def incP (l:List (Int×Int×Bool×List ByteArray)) (i:Nat):Bool:=match l[i]? with
  | none=>true
  | some x=>incOK x && (decide (i=0) || match l[i - 1]? with | some y=>decide (y.1 < x.1) | none=>true) && !clashB (l.take i) x
def incsB (l:List (Int×Int×Bool×List ByteArray)):Bool:=(List.range l.length).all (incP l) && decide ((l.length:Int)≤8)
theorem incs_bad {l:List (Int×Int×Bool×List ByteArray)} {i:Nat} (hi:i < l.length) (h:incP l i=false):incsB l=false:=by
  have:(List.range l.length).all (incP l)=false:=by
    rw [List.all_eq_false]
    exact ⟨i,List.mem_range.2 hi,by rw [h];simp⟩
  rw [incsB,this];rfl
theorem incs_good {l:List (Int×Int×Bool×List ByteArray)} {i:Nat} (hi:l.length≤i) (h:∀j,j < i→incP l j=true):incsB l=decide ((l.length:Int)≤8):=by
  have:(List.range l.length).all (incP l)=true:=by
    rw [List.all_eq_true]
    intro j hj
    exact h j (Nat.lt_of_lt_of_le (List.mem_range.1 hj) hi)
  rw [incsB,this];rfl
theorem upto_step {P:Nat→Bool} {i:Nat} (h:∀j,j < i→P j=true) (hi:P i=true):∀j,j < i+1→P j=true:=by
  intro j hj
  rcases Nat.lt_or_ge j i with q | q
  · exact h j q
  · have:j=i:=by omega
    subst this;exact hi
theorem incP_zero {l:List (Int×Int×Bool×List ByteArray)} {x:(Int×Int×Bool×List ByteArray)} (h:l[0]? =some x):incP l 0=(incOK x && !clashB (l.take 0) x):=by
  rw [incP,h];simp
theorem incP_succ {l:List (Int×Int×Bool×List ByteArray)} {i:Nat} {x y:(Int×Int×Bool×List ByteArray)} (h0:0 < i) (hy:l[i - 1]? =some y) (h:l[i]? =some x):incP l i=(incOK x && decide (y.1 < x.1) && !clashB (l.take i) x):=by
  rw [incP,h]
  simp only [hy,decide_eq_false (show ¬i=0 by omega),Bool.false_or]
def openF (l:List (Int×Int×Bool×List ByteArray)) (n:Int):Int:=firstP (fun x:(Int×Int×Bool×List ByteArray)=>decide (x.1=n) && !x.2.2.1) 0 l
def commF (l:List (Int×Int×Bool×List ByteArray)) (s:ByteArray):Int:=firstP (fun x:(Int×Int×Bool×List ByteArray)=>inS s x.2.2.2) 0 l
theorem comm_any (l:List (Int×Int×Bool×List ByteArray)) (s:ByteArray):decide (0≤commF l s)=l.any fun y=>inS s y.2.2.2:=first_any _ l 0
theorem any_swap {α β:Type} (f:α→β→Bool) (l:List α) (m:List β):(l.any fun a=>m.any fun b=>f a b)=(m.any fun b=>l.any fun a=>f a b):=by
  rw [Bool.eq_iff_iff]
  simp only [List.any_eq_true]
  exact ⟨fun ⟨a,ha,b,hb,h⟩=>⟨b,hb,a,ha,h⟩,fun ⟨b,hb,a,ha,h⟩=>⟨a,ha,b,hb,h⟩⟩
set_option maxRecDepth 8000 in
set_option maxHeartbeats 1000000 in
theorem isIncident_con (x0:Int) (x1:Int) (x2:Bool) (x3:List ByteArray) (hsz:∀s∈x3,s.size≤9223372036854775807) (hnl:x3.length≤1048576):Con Tryz.prog 172 [.agg [V.int .i64 x0,V.int .i64 x1,V.bool x2,V.sl (x3.map V.str)]] [] (.bool (incOK (x0,x1,x2,x3))) []:=by
 refine v_con [.tmp 2] [] Tryz.func172 rfl rfl rfl (by simp [Tryz.ntmps172]) ?_
 intro Q0 n0 r0
 simp only [Tryz.ntmps172,envFrom,Nat.reduceAdd]
 have T:=Tys.mk (And.intro Ty.t3 (And.intro Ty.t4 (And.intro Ty.t9 (And.intro Ty.t47 Ty.t78))))
 have F:=Fc.mk True.intro
 refine v_seqR [1] ?_;intro K1 k1;refine zq9 ⟨?_⟩;refine k1 _ ?_;refine zk ⟨?_⟩;refine v_seq ?_;intro Q2 n2 e2 r2;refine v_seqR [1,30] ?_;intro K3 k3;refine zq1 ⟨?_⟩;refine zc (inside_con _ _ _) ⟨?_⟩;refine zUnOp ⟨?_⟩;refine zq16 ⟨?_⟩;refine zgc (inside_con _ _ _) ⟨?_⟩;refine zgUnOp ⟨?_⟩;refine zq28 ⟨?_⟩;refine zq35 ⟨?_⟩;refine zq28 ⟨?_⟩;refine zgMove ⟨?_⟩;refine zq10 ⟨?_⟩;refine zq35 ⟨?_⟩;refine zgPick ⟨?_⟩;refine zPick ⟨?_⟩;refine k3 _ ?_;refine zk ⟨?_⟩;refine v_condS _ rfl ?_ ?_
 ·intro hc0
  have hh:incOK (x0,x1,x2,x3)=false:=by
   cases hq:incOK (x0,x1,x2,x3) with
   |false=>rfl
   |true=>
    exfalso
    have hq2:(((decide (1≤x0) && decide (x0≤999)) && (decide (0≤x1) && decide (x1≤13)) && !decide (12 < (x3.length:Int)) && !(x2 && decide (0 < (x3.length:Int)))) && chainAt nameB strLt x3 0)=true:=hq
    rw [Bool.and_eq_true] at hq2
    have hq3:=hq2.1
    generalize (x3.length:Int)=m at hc0 hq3
    clear hq hq2
    cases x2<;>simp at hc0 hq3<;>omega
  refine v_seqR [2] ?_;intro K5 k5;refine zAssign ⟨?_⟩;refine k5 _ ?_;refine zk ⟨?_⟩;refine v_ret ?_;refine r2 _ ?_;refine r0 _ ?_;refine zf ⟨?_⟩
  rw [hh]
  exact ret_pure rfl rfl (.inl rfl)
 ·intro hc0
  have hh:incOK (x0,x1,x2,x3)=chainAt nameB strLt x3 0:=by
   have hb:((decide (1≤x0) && decide (x0≤999)) && (decide (0≤x1) && decide (x1≤13)) && !decide (12 < (x3.length:Int)) && !(x2 && decide (0 < (x3.length:Int))))=true:=by
    generalize (x3.length:Int)=m at hc0⊢
    cases x2<;>simp at hc0⊢<;>omega
   show (((decide (1≤x0) && decide (x0≤999)) && (decide (0≤x1) && decide (x1≤13)) && !decide (12 < (x3.length:Int)) && !(x2 && decide (0 < (x3.length:Int)))) && chainAt nameB strLt x3 0)=_
   rw [hb];rfl
  refine v_skip ?_;refine n2 _ _ (weak_keep [1] _) ?_;refine zk ⟨?_⟩;refine v_seq ?_;intro Q6 n6 e6 r6;refine v_seqR [1,32,33,34] ?_;intro K7 k7;refine zq18 ⟨?_⟩;refine k7 _ ?_;refine zk ⟨?_⟩;refine v_block ?_;intro Q8 n8 x8 e8 r8;refine v_loop (fun i=>⟨[(1,.ptr 0 0 0),(32,.sl (x3.map V.str)),(33,.int .i64 x3.length),(34,.int .i64 (Nat.cast i))],[.box (.agg [V.int .i64 x0,V.int .i64 x1,V.bool x2,V.sl (x3.map V.str)]) .shal],false,57,0⟩) (fun i=>i≤x3.length∧chainAt nameB strLt x3 i=chainAt nameB strLt x3 0) (fun i=>x3.length - i) 0 ?_ ?_ ?_
  ·refine weak_bothS [1,32,33,34] [0] ⟨?_⟩
   rfl
  ·exact ⟨Nat.zero_le _,rfl⟩
  ·rintro i hok9 Q9 n9 e9 r9
   obtain ⟨hi1,hR⟩:=hok9
   refine v_seqR [1,32,33,34,35] ?_;intro K10 k10;refine zBinOp ⟨?_⟩;refine k10 _ ?_;refine zk ⟨?_⟩;refine v_seq ?_;intro Q11 n11 e11 r11;refine v_condS _ rfl ?_ ?_
   ·intro hc1
    have hlt:i < x3.length:=by omega
    obtain ⟨s,hx⟩:∃s,x3[i]? =some s:=⟨_,List.getElem?_eq_getElem hlt⟩
    have hsx:=hsz s (List.mem_of_getElem? hx)
    rcases Nat.eq_zero_or_pos i with h0 | h0
    ·skip
     have hi0:¬((0:Int) < (i:Int)):=by omega
     have hst:chainAt nameB strLt x3 i=(nameB s && chainAt nameB strLt x3 (i+1)):=by subst h0;exact chain_zero hx
     refine v_skip ?_;refine n11 _ _ (weak_keep [1,32,33,34] _) ?_;refine zk ⟨?_⟩;refine v_seq ?_;intro Q13 n13 e13 r13;refine v_block ?_;intro Q14 n14 x14 e14 r14;refine v_seqR [1,3,4,32,33,34] ?_;intro K15 k15
     have F:=Fc.mk (And.intro (fun f=>getD_map (f:=f) hx) (And.intro hi0 (And.intro @decide_false @Bool.and_false)))
     refine zq41 ⟨?_⟩;refine k15 _ ?_;refine zk ⟨?_⟩;refine v_seqR [1,32,33,34,55] ?_;intro K16 k16;refine zMove ⟨?_⟩;refine zc (isName_con s hsx) ⟨?_⟩;refine zq38 ⟨?_⟩;refine zgBinOp ⟨?_⟩;refine zgMove ⟨?_⟩;refine zq10 ⟨?_⟩;refine zgMove ⟨?_⟩;refine zgBinOpW ⟨?_⟩;refine zgIndexAddr ⟨?_⟩;refine zgLoad ⟨?_⟩;refine zq33 ⟨?_⟩;refine zgPick ⟨?_⟩;refine zPick ⟨?_⟩;refine k16 _ ?_;refine zk ⟨?_⟩;refine v_condS _ rfl ?_ ?_
     ·intro hc2
      refine v_seqR [2] ?_;intro K18 k18;refine zAssign ⟨?_⟩;refine k18 _ ?_;refine zk ⟨?_⟩;refine v_ret ?_;refine r14 _ ?_;refine r13 _ ?_;refine r9 _ ?_;refine r8 _ ?_;refine r6 _ ?_;refine r0 _ ?_;refine zf ⟨?_⟩
      rw [hh]
      exact ret_pure rfl (by rw [←hR,hst];(try simp at hc2);first | (simp [hc2];done) | (rcases hc2 with h | h<;>simp [h];done) | (simp_all;done)) (.inl rfl)
     ·intro hc2
      refine v_skip ?_;refine n14 _ ?_;refine n13 _ _ (weak_keep [1,32,33,34] _) ?_;refine zk ⟨?_⟩;refine v_region ?_;intro K19 k19;refine zq5 ⟨?_⟩;refine k19 _ ?_;refine n9 _ (i+1) ?_ ?_ ?_
      ·refine weak_bothS [1,32,33,34] [0] ⟨?_⟩
       rfl
      ·exact ⟨by omega,by rw [←hR,hst];(try simp at hc2);first | (simp [hc2];done) | (simp_all;done)⟩
      ·show _ < _;omega
    ·skip
     obtain ⟨y,hy⟩:∃y,x3[i - 1]? =some y:=⟨_,List.getElem?_eq_getElem (by omega)⟩
     have hi0:(0:Int) < i:=by omega
     have hk:((i:Int) - 1).toNat=i - 1:=by omega
     have hst:=chain_succ (ok:=nameB) (bf:=strLt) h0 hy hx
     refine v_skip ?_;refine n11 _ _ (weak_keep [1,32,33,34] _) ?_;refine zk ⟨?_⟩;refine v_seq ?_;intro Q20 n20 e20 r20;refine v_block ?_;intro Q21 n21 x21 e21 r21;refine v_seqR [1,3,4,32,33,34] ?_;intro K22 k22
     have F:=Fc.mk (And.intro (fun f=>getD_map (f:=f) hx) (And.intro hi0 (And.intro hk (And.intro (fun f=>getD_map (f:=f) hy) (And.intro @decide_true @Bool.and_true)))))
     refine zq41 ⟨?_⟩;refine k22 _ ?_;refine zk ⟨?_⟩;refine v_seqR [1,32,33,34,55] ?_;intro K23 k23;refine zMove ⟨?_⟩;refine zc (isName_con s hsx) ⟨?_⟩;refine zq38 ⟨?_⟩;refine zgBinOp ⟨?_⟩;refine zgMove ⟨?_⟩;refine zq10 ⟨?_⟩;refine zgMove ⟨?_⟩;refine zgBinOpW ⟨?_⟩;refine zgIndexAddr ⟨?_⟩;refine zgLoad ⟨?_⟩;refine zq33 ⟨?_⟩;refine zgPick ⟨?_⟩;refine zPick ⟨?_⟩;refine k23 _ ?_;refine zk ⟨?_⟩;refine v_condS _ rfl ?_ ?_
     ·intro hc2
      refine v_seqR [2] ?_;intro K25 k25;refine zAssign ⟨?_⟩;refine k25 _ ?_;refine zk ⟨?_⟩;refine v_ret ?_;refine r21 _ ?_;refine r20 _ ?_;refine r9 _ ?_;refine r8 _ ?_;refine r6 _ ?_;refine r0 _ ?_;refine zf ⟨?_⟩
      rw [hh]
      exact ret_pure rfl (by rw [←hR,hst];(try simp at hc2);first | (simp [hc2];done) | (rcases hc2 with h | h<;>simp [h];done) | (simp_all;done)) (.inl rfl)
     ·intro hc2
      refine v_skip ?_;refine n21 _ ?_;refine n20 _ _ (weak_keep [1,32,33,34] _) ?_;refine zk ⟨?_⟩;refine v_region ?_;intro K26 k26;refine zq5 ⟨?_⟩;refine k26 _ ?_;refine n9 _ (i+1) ?_ ?_ ?_
      ·refine weak_bothS [1,32,33,34] [0] ⟨?_⟩
       rfl
      ·exact ⟨by omega,by rw [←hR,hst];(try simp at hc2);first | (simp [hc2];done) | (simp_all;done)⟩
      ·show _ < _;omega
   ·intro hc1
    refine v_exit ?_;refine e11 _ _ ?_;refine e9 _ _ ?_;refine x8 _ ?_;refine n6 _ _ (weak_keep [] _) ?_;refine zk ⟨?_⟩;refine v_seqR [2] ?_;intro K27 k27;refine zAssign ⟨?_⟩;refine k27 _ ?_;refine zk ⟨?_⟩;refine v_ret ?_;refine r0 _ ?_;refine zf ⟨?_⟩
    rw [hh]
    exact ret_pure rfl (by rw [←hR,chain_end (by omega)]) (.inl rfl)
set_option maxRecDepth 8000 in
set_option maxHeartbeats 1000000 in
theorem ixOne_con (x0:Int) (x1:Int) (x2:Bool) (x3:List ByteArray) (hsz:∀s∈x3,s.size≤9223372036854775807) (hnl:x3.length≤1048576):Con Tryz.prog 176 [.agg [V.int .i64 x0,V.int .i64 x1,V.bool x2,V.sl (x3.map V.str)]] [] (.bool (incOK (x0,x1,x2,x3))) []:=by
 have hcs:=chain_split (ok:=nameB) (bf:=strLt) (l:=x3)
 refine v_con [.tmp 2] [] Tryz.func176 rfl rfl rfl (by simp [Tryz.ntmps176]) ?_
 intro Q0 n0 r0
 simp only [Tryz.ntmps176,envFrom,Nat.reduceAdd]
 have T:=Tys.mk (And.intro Ty.t3 (And.intro Ty.t4 (And.intro Ty.t9 (And.intro Ty.t47 Ty.t78))))
 have F:=Fc.mk True.intro
 refine v_seqR [1] ?_;intro K1 k1;refine zq9 ⟨?_⟩;refine k1 _ ?_;refine zk ⟨?_⟩;refine v_seq ?_;intro Q2 n2 e2 r2;refine v_seqR [1,36] ?_;intro K3 k3;refine zq1 ⟨?_⟩;refine zc (l1In_con _ _ _) ⟨?_⟩;refine zUnOp ⟨?_⟩;refine zq16 ⟨?_⟩;refine zgc (apNode_con _) ⟨?_⟩;refine zgUnOp ⟨?_⟩;refine zq28 ⟨?_⟩;refine zq35 ⟨?_⟩;refine zq28 ⟨?_⟩;refine zgMove ⟨?_⟩;refine zq10 ⟨?_⟩;refine zq35 ⟨?_⟩;refine zgPick ⟨?_⟩;refine zq28 ⟨?_⟩;refine zgc (dsNames_con x3 hnl) ⟨?_⟩;refine zgUnOp ⟨?_⟩;refine v_op ?_;intro K k
 simp only [zE,zP,aStepM,optable,set_some,Nat.reduceEqDiff,reduceIte,Nat.reduceLT,implies_true,forall_const,reduceCtorEq,V.ofValue,V.ofScalar,V.un,V.gd,aExec,aop,pickV]
 repeat (refine And.intro (by first | (intro h;rw [h];rfl) | omega | (intros;simp_all;done)) ?_)
 refine k _ ?_;clear k K;refine k3 _ ?_;refine zk ⟨?_⟩;refine v_condS _ rfl ?_ ?_
 ·intro hc0
  have hh:incOK (x0,x1,x2,x3)=false:=by
   cases hq:incOK (x0,x1,x2,x3) with
   |false=>rfl
   |true=>
    exfalso
    have hq2:(((decide (1≤x0) && decide (x0≤999)) && (decide (0≤x1) && decide (x1≤13)) && !decide (12 < (x3.length:Int)) && !(x2 && decide (0 < (x3.length:Int)))) && chainAt nameB strLt x3 0)=true:=hq
    rw [Bool.and_eq_true] at hq2
    have hq3:=hq2.1
    have hq4:chainAt (fun _:ByteArray=>true) strLt x3 0=true:=by have q:=hq2.2;rw [hcs,Bool.and_eq_true] at q;exact q.1
    rw [hq4] at hc0
    generalize (x3.length:Int)=m at hc0 hq3
    clear hq hq2 hq4
    cases x2<;>simp at hc0 hq3<;>omega
  refine v_seqR [2] ?_;intro K5 k5;refine zAssign ⟨?_⟩;refine k5 _ ?_;refine zk ⟨?_⟩;refine v_ret ?_;refine r2 _ ?_;refine r0 _ ?_;refine zf ⟨?_⟩
  rw [hh]
  exact ret_pure rfl rfl (.inl rfl)
 ·intro hc0
  have hb2:chainAt (fun _:ByteArray=>true) strLt x3 0=true:=by
   cases q:chainAt (fun _:ByteArray=>true) strLt x3 0 with
   |true=>rfl
   |false=>(rw [q] at hc0;simp at hc0)
  have hh:incOK (x0,x1,x2,x3)=x3.all nameB:=by
   have hb:((decide (1≤x0) && decide (x0≤999)) && (decide (0≤x1) && decide (x1≤13)) && !decide (12 < (x3.length:Int)) && !(x2 && decide (0 < (x3.length:Int))))=true:=by
    rw [hb2] at hc0
    generalize (x3.length:Int)=m at hc0⊢
    cases x2<;>simp at hc0⊢<;>omega
   show (((decide (1≤x0) && decide (x0≤999)) && (decide (0≤x1) && decide (x1≤13)) && !decide (12 < (x3.length:Int)) && !(x2 && decide (0 < (x3.length:Int)))) && chainAt nameB strLt x3 0)=_
   rw [hb,hcs,hb2];rfl
  refine v_skip ?_;refine n2 _ _ (weak_keep [1] _) ?_;refine zk ⟨?_⟩;refine v_seq ?_;intro Q6 n6 e6 r6;refine v_seqR [38,39,40] ?_;intro K7 k7;refine zq18 ⟨?_⟩;refine k7 _ ?_;refine zk ⟨?_⟩;refine v_block ?_;intro Q8 n8 x8 e8 r8;refine v_loop (fun i=>⟨[(38,.sl (x3.map V.str)),(39,.int .i64 x3.length),(40,.int .i64 (Nat.cast i))],[],false,48,0⟩) (fun i=>i≤x3.length∧(x3.drop i).all nameB=x3.all nameB) (fun i=>x3.length - i) 0 ?_ ?_ ?_
  ·refine weak_bothS [38,39,40] [] ⟨?_⟩
   rfl
  ·exact ⟨Nat.zero_le _,rfl⟩
  ·rintro i hok9 Q9 n9 e9 r9
   obtain ⟨hi1,hR⟩:=hok9
   refine v_seqR [38,39,40,41] ?_;intro K10 k10;refine zBinOp ⟨?_⟩;refine k10 _ ?_;refine zk ⟨?_⟩;refine v_seq ?_;intro Q11 n11 e11 r11;refine v_condS _ rfl ?_ ?_
   ·intro hc1
    have hlt:i < x3.length:=by omega
    obtain ⟨s,hx⟩:∃s,x3[i]? =some s:=⟨_,List.getElem?_eq_getElem hlt⟩
    have hsx:=hsz s (List.mem_of_getElem? hx)
    have hst:=all_step (p:=nameB) hx
    refine v_skip ?_;refine n11 _ _ (weak_keep [38,39,40] _) ?_;refine zk ⟨?_⟩;refine v_seq ?_;intro Q13 n13 e13 r13;refine v_block ?_;intro Q14 n14 x14 e14 r14;refine v_seqR [4,38,39,40] ?_;intro K15 k15
    have F:=Fc.mk (fun f=>getD_map (f:=f) hx)
    refine zq25 ⟨?_⟩;refine k15 _ ?_;refine zk ⟨?_⟩;refine v_seqR [38,39,40,46] ?_;intro K16 k16;refine zMove ⟨?_⟩;refine zc (apName_con s hsx) ⟨?_⟩;refine zUnOp ⟨?_⟩;refine k16 _ ?_;refine zk ⟨?_⟩;refine v_condS _ rfl ?_ ?_
    ·intro hc2
     refine v_seqR [2] ?_;intro K18 k18;refine zAssign ⟨?_⟩;refine k18 _ ?_;refine zk ⟨?_⟩;refine v_ret ?_;refine r14 _ ?_;refine r13 _ ?_;refine r9 _ ?_;refine r8 _ ?_;refine r6 _ ?_;refine r0 _ ?_;refine zf ⟨?_⟩
     rw [hh]
     exact ret_pure rfl (by rw [←hR,hst];simp [hc2]) (.inl rfl)
    ·intro hc2
     refine v_skip ?_;refine n14 _ ?_;refine n13 _ _ (weak_keep [38,39,40] _) ?_;refine zk ⟨?_⟩;refine v_region ?_;intro K19 k19;refine zq5 ⟨?_⟩;refine k19 _ ?_;refine n9 _ (i+1) ?_ ?_ ?_
     ·refine weak_bothS [38,39,40] [] ⟨?_⟩
      rfl
     ·exact ⟨by omega,by rw [←hR,hst];simp [hc2]⟩
     ·show _ < _;omega
   ·intro hc1
    refine v_exit ?_;refine e11 _ _ ?_;refine e9 _ _ ?_;refine x8 _ ?_;refine n6 _ _ (weak_keep [] _) ?_;refine zk ⟨?_⟩;refine v_seqR [2] ?_;intro K20 k20;refine zAssign ⟨?_⟩;refine k20 _ ?_;refine zk ⟨?_⟩;refine v_ret ?_;refine r0 _ ?_;refine zf ⟨?_⟩
    rw [hh]
    exact ret_pure rfl (by rw [←hR,all_end (by omega)]) (.inl rfl)
set_option maxHeartbeats 1000000 in
theorem openAt1_con (x0:Int) (x1:Int) (x2:Bool) (x3:List ByteArray) (n:Int):Con Tryz.prog 192 [.agg [V.int .i64 x0,V.int .i64 x1,V.bool x2,V.sl (x3.map V.str)],.pv [.int .i64 n] 0 0] [] (.bool (decide (x0=n) && !x2)) []:=by
 refine v_con [.tmp 3] [] Tryz.func192 rfl rfl rfl (by simp [Tryz.ntmps192]) ?_
 intro Q0 n0 r0
 simp only [Tryz.ntmps192,envFrom,Nat.reduceAdd]
 have T:=Tys.mk (And.intro Ty.t3 (And.intro Ty.t4 (And.intro Ty.t9 (And.intro Ty.t47 Ty.t78))))
 have F:=Fc.mk True.intro
 refine v_seqR [1,2] ?_;intro K1 k1;refine zq9 ⟨?_⟩;refine k1 _ ?_;refine zk ⟨?_⟩;refine v_seqR [3] ?_;intro K2 k2;refine zq1 ⟨?_⟩;refine zLoad ⟨?_⟩;refine zBinOp ⟨?_⟩;refine zq16 ⟨?_⟩;refine zq47 ⟨?_⟩;refine k2 _ ?_;refine zk ⟨?_⟩;refine v_ret ?_;refine r0 _ ?_;refine zf ⟨?_⟩
 exact ret_pure rfl (by first | rfl | simp) (.inl rfl)
set_option maxHeartbeats 1000000 in
theorem openAt_con (l:List (Int×Int×Bool×List ByteArray)) (n:Int) (hl:l.length≤1048576):Con Tryz.prog 134 [.sl (l.map (fun t:Int×Int×Bool×List ByteArray=>V.agg [V.int .i64 t.1,V.int .i64 t.2.1,V.bool t.2.2.1,V.sl (t.2.2.2.map V.str)])),.int .i64 n] [] (.int .i64 (openF l n)) []:=by
 refine v_con [.tmp 4] [] Tryz.func134 rfl rfl rfl (by simp [Tryz.ntmps134]) ?_
 intro Q0 n0 r0
 simp only [Tryz.ntmps134,envFrom,Nat.reduceAdd]
 have T:=Tys.mk (And.intro Ty.t3 (And.intro Ty.t4 (And.intro Ty.t9 (And.intro Ty.t39 (And.intro Ty.t47 Ty.t78)))))
 have F:=Fc.mk True.intro
 refine v_seqR [0,3] ?_;intro K1 k1;refine zq9 ⟨?_⟩;refine k1 _ ?_;refine zk ⟨?_⟩;refine v_seqR [4] ?_;intro K2 k2;refine zMove ⟨?_⟩;refine zMakeFunc ⟨?_⟩;refine zc (indexFuncIncident_con l _ _ (fun x=>decide (x.1=n) && !x.2.2.1) hl (.pv _ .nil) (fun x0 x1 x2 x3 _=>openAt1_con x0 x1 x2 x3 n)) ⟨?_⟩;refine zAssign ⟨?_⟩;refine k2 _ ?_;refine zk ⟨?_⟩;refine v_ret ?_;refine r0 _ ?_;refine zf ⟨?_⟩
 exact ret_pure rfl rfl (.inl rfl)
set_option maxHeartbeats 1000000 in
theorem committedAt1_con (x0:Int) (x1:Int) (x2:Bool) (x3:List ByteArray) (s:ByteArray) (hlx:x3.length≤1048576):Con Tryz.prog 174 [.agg [V.int .i64 x0,V.int .i64 x1,V.bool x2,V.sl (x3.map V.str)],.pv [.str s] 0 0] [] (.bool (inS s x3)) []:=by
 refine v_con [.tmp 3] [] Tryz.func174 rfl rfl rfl (by simp [Tryz.ntmps174]) ?_
 intro Q0 n0 r0
 simp only [Tryz.ntmps174,envFrom,Nat.reduceAdd]
 have T:=Tys.mk (And.intro Ty.t3 (And.intro Ty.t4 (And.intro Ty.t9 (And.intro Ty.t47 Ty.t78))))
 have F:=Fc.mk True.intro
 refine v_seqR [1,2] ?_;intro K1 k1;refine zq9 ⟨?_⟩;refine k1 _ ?_;refine zk ⟨?_⟩;refine v_seqR [3] ?_;intro K2 k2;refine zq1 ⟨?_⟩;refine zLoad ⟨?_⟩;refine zc (slContainsS_con x3 s hlx) ⟨?_⟩;refine zAssign ⟨?_⟩;refine k2 _ ?_;refine zk ⟨?_⟩;refine v_ret ?_;refine r0 _ ?_;refine zf ⟨?_⟩
 exact ret_pure rfl rfl (.inl rfl)
set_option maxHeartbeats 1000000 in
theorem committedAt_con (l:List (Int×Int×Bool×List ByteArray)) (s:ByteArray) (hl:l.length≤1048576) (hli:∀x∈l,x.2.2.2.length≤1048576):Con Tryz.prog 103 [.sl (l.map (fun t:Int×Int×Bool×List ByteArray=>V.agg [V.int .i64 t.1,V.int .i64 t.2.1,V.bool t.2.2.1,V.sl (t.2.2.2.map V.str)])),.str s] [] (.int .i64 (commF l s)) []:=by
 refine v_con [.tmp 4] [] Tryz.func103 rfl rfl rfl (by simp [Tryz.ntmps103]) ?_
 intro Q0 n0 r0
 simp only [Tryz.ntmps103,envFrom,Nat.reduceAdd]
 have T:=Tys.mk (And.intro Ty.t3 (And.intro Ty.t4 (And.intro Ty.t9 (And.intro Ty.t39 (And.intro Ty.t47 Ty.t78)))))
 have F:=Fc.mk True.intro
 refine v_seqR [0,3] ?_;intro K1 k1;refine zq9 ⟨?_⟩;refine k1 _ ?_;refine zk ⟨?_⟩;refine v_seqR [4] ?_;intro K2 k2;refine zMove ⟨?_⟩;refine zMakeFunc ⟨?_⟩;refine zc (indexFuncIncident_con l _ _ (fun x=>inS s x.2.2.2) hl (.pv _ .nil) (fun x0 x1 x2 x3 hm=>committedAt1_con x0 x1 x2 x3 s (hli _ hm))) ⟨?_⟩;refine zAssign ⟨?_⟩;refine k2 _ ?_;refine zk ⟨?_⟩;refine v_ret ?_;refine r0 _ ?_;refine zf ⟨?_⟩
 exact ret_pure rfl rfl (.inl rfl)
set_option maxHeartbeats 1000000 in
theorem ixFind_con (l:List (Int×Int×Bool×List ByteArray)) (n:Int) (hl:l.length≤1048576):Con Tryz.prog 123 [.sl (l.map (fun t:Int×Int×Bool×List ByteArray=>V.agg [V.int .i64 t.1,V.int .i64 t.2.1,V.bool t.2.2.1,V.sl (t.2.2.2.map V.str)])),.int .i64 n] [] (.int .i64 (openF l n)) []:=by
 refine v_con [.tmp 4] [] Tryz.func123 rfl rfl rfl (by simp [Tryz.ntmps123]) ?_
 intro Q0 n0 r0
 simp only [Tryz.ntmps123,envFrom,Nat.reduceAdd]
 have T:=Tys.mk (And.intro Ty.t3 (And.intro Ty.t4 (And.intro Ty.t9 (And.intro Ty.t39 (And.intro Ty.t47 Ty.t78)))))
 have F:=Fc.mk True.intro
 refine v_seqR [0,1] ?_;intro K1 k1;refine zAssign ⟨?_⟩;refine k1 _ ?_;refine zk ⟨?_⟩;refine v_seq ?_;intro Q2 n2 e2 r2;refine v_seqR [1,7,8,9] ?_;intro K3 k3;refine zq15 ⟨?_⟩;refine k3 _ ?_;refine zk ⟨?_⟩;refine v_block ?_;intro Q4 n4 x4 e4 r4;refine v_loop (fun i=>⟨[(1,.int .i64 n),(7,.sl (l.map (fun t:Int×Int×Bool×List ByteArray=>V.agg [V.int .i64 t.1,V.int .i64 t.2.1,V.bool t.2.2.1,V.sl (t.2.2.2.map V.str)]))),(8,.int .i64 l.length),(9,.int .i64 (Nat.cast i))],[],false,25,0⟩) (fun i=>i≤l.length∧firstP (fun x:(Int×Int×Bool×List ByteArray)=>decide (x.1=n) && !x.2.2.1) i (l.drop i)=firstP (fun x:(Int×Int×Bool×List ByteArray)=>decide (x.1=n) && !x.2.2.1) 0 l) (fun i=>l.length - i) 0 ?_ ?_ ?_
 ·refine weak_of [1,7,8,9] ?_
  simp only [keep_mk,keepE_nil,keepE_cons,look_cons,look_nil,Nat.reduceEqDiff,reduceIte]
  rfl
 ·exact ⟨Nat.zero_le _,rfl⟩
 ·rintro i hok5 Q5 n5 e5 r5
  obtain ⟨hi1,hR⟩:=hok5
  refine v_seqR [1,7,8,9,10] ?_;intro K6 k6;refine zBinOp ⟨?_⟩;refine k6 _ ?_;refine zk ⟨?_⟩;refine v_seq ?_;intro Q7 n7 e7 r7;refine v_condS _ rfl ?_ ?_
  ·intro hc0
   have hlt:i < l.length:=by omega
   obtain ⟨⟨x0,x1,x2,x3⟩,hx⟩:∃x:Int×Int×Bool×List ByteArray,l[i]? =some x:=⟨l[i]'(by omega),List.getElem?_eq_getElem (by omega)⟩
   have hst:=first_step (p:=fun x:(Int×Int×Bool×List ByteArray)=>decide (x.1=n) && !x.2.2.1) hx
   refine v_skip ?_;refine n7 _ _ (weak_keep [1,7,8,9] _) ?_;refine zk ⟨?_⟩;refine v_seq ?_;intro Q9 n9 e9 r9;refine v_block ?_;intro Q10 n10 x10 e10 r10;refine v_seqR [1,5,6,7,8,9] ?_;intro K11 k11
   have F:=Fc.mk (fun f=>getD_map (f:=f) hx)
   refine zq23 ⟨?_⟩;refine k11 _ ?_;refine zk ⟨?_⟩;refine v_seqR [1,5,7,8,9,22] ?_;intro K12 k12;refine zq1 ⟨?_⟩;refine zq13 ⟨?_⟩;refine zq16 ⟨?_⟩;refine zgUnOp ⟨?_⟩;refine zPick ⟨?_⟩;refine k12 _ ?_;refine zk ⟨?_⟩;refine v_condS _ rfl ?_ ?_
   ·intro hc1
    refine v_seqR [4] ?_;intro K14 k14;refine zq8 ⟨?_⟩;refine k14 _ ?_;refine zk ⟨?_⟩;refine v_ret ?_;refine r10 _ ?_;refine r9 _ ?_;refine r5 _ ?_;refine r4 _ ?_;refine r2 _ ?_;refine r0 _ ?_;refine zf ⟨?_⟩
    exact ret_pure rfl (by rw [openF,←hR,hst,if_pos (by simpa using hc1)]) (.inl rfl)
   ·intro hc1
    refine v_skip ?_;refine n10 _ ?_;refine n9 _ _ (weak_keep [1,7,8,9] _) ?_;refine zk ⟨?_⟩;refine v_region ?_;intro K15 k15;refine zq5 ⟨?_⟩;refine k15 _ ?_;refine n5 _ (i+1) ?_ ?_ ?_
    ·refine weak_bothS [1,7,8,9] [] ⟨?_⟩
     rfl
    ·exact ⟨by omega,by rw [←hR,hst,if_neg (by simpa using hc1)]⟩
    ·show _ < _;omega
  ·intro hc0
   refine v_exit ?_;refine e7 _ _ ?_;refine e5 _ _ ?_;refine x4 _ ?_;refine n2 _ _ (weak_keep [] _) ?_;refine zk ⟨?_⟩;refine v_seqR [4] ?_;intro K16 k16;refine zAssign ⟨?_⟩;refine k16 _ ?_;refine zk ⟨?_⟩;refine v_ret ?_;refine r0 _ ?_;refine zf ⟨?_⟩
   exact ret_pure rfl (by rw [openF,←hR,first_end (by omega)]) (.inl rfl)
set_option maxHeartbeats 1000000 in
theorem ixOf_con (l:List (Int×Int×Bool×List ByteArray)) (s:ByteArray) (hl:l.length≤1048576) (hli:∀x∈l,x.2.2.2.length≤1048576):Con Tryz.prog 107 [.sl (l.map (fun t:Int×Int×Bool×List ByteArray=>V.agg [V.int .i64 t.1,V.int .i64 t.2.1,V.bool t.2.2.1,V.sl (t.2.2.2.map V.str)])),.str s] [] (.int .i64 (commF l s)) []:=by
 refine v_con [.tmp 4] [] Tryz.func107 rfl rfl rfl (by simp [Tryz.ntmps107]) ?_
 intro Q0 n0 r0
 simp only [Tryz.ntmps107,envFrom,Nat.reduceAdd]
 have T:=Tys.mk (And.intro Ty.t3 (And.intro Ty.t4 (And.intro Ty.t9 (And.intro Ty.t39 (And.intro Ty.t47 Ty.t78)))))
 have F:=Fc.mk True.intro
 refine v_seqR [0,1] ?_;intro K1 k1;refine zAssign ⟨?_⟩;refine k1 _ ?_;refine zk ⟨?_⟩;refine v_seq ?_;intro Q2 n2 e2 r2;refine v_seqR [1,7,8,9] ?_;intro K3 k3;refine zq15 ⟨?_⟩;refine k3 _ ?_;refine zk ⟨?_⟩;refine v_block ?_;intro Q4 n4 x4 e4 r4;refine v_loop (fun i=>⟨[(1,.str s),(7,.sl (l.map (fun t:Int×Int×Bool×List ByteArray=>V.agg [V.int .i64 t.1,V.int .i64 t.2.1,V.bool t.2.2.1,V.sl (t.2.2.2.map V.str)]))),(8,.int .i64 l.length),(9,.int .i64 (Nat.cast i))],[],false,20,0⟩) (fun i=>i≤l.length∧firstP (fun x:(Int×Int×Bool×List ByteArray)=>inS s x.2.2.2) i (l.drop i)=firstP (fun x:(Int×Int×Bool×List ByteArray)=>inS s x.2.2.2) 0 l) (fun i=>l.length - i) 0 ?_ ?_ ?_
 ·refine weak_of [1,7,8,9] ?_
  simp only [keep_mk,keepE_nil,keepE_cons,look_cons,look_nil,Nat.reduceEqDiff,reduceIte]
  rfl
 ·exact ⟨Nat.zero_le _,rfl⟩
 ·rintro i hok5 Q5 n5 e5 r5
  obtain ⟨hi1,hR⟩:=hok5
  refine v_seqR [1,7,8,9,10] ?_;intro K6 k6;refine zBinOp ⟨?_⟩;refine k6 _ ?_;refine zk ⟨?_⟩;refine v_seq ?_;intro Q7 n7 e7 r7;refine v_condS _ rfl ?_ ?_
  ·intro hc0
   have hlt:i < l.length:=by omega
   obtain ⟨⟨x0,x1,x2,x3⟩,hx⟩:∃x:Int×Int×Bool×List ByteArray,l[i]? =some x:=⟨l[i]'(by omega),List.getElem?_eq_getElem (by omega)⟩
   have hlx:=hli _ (List.mem_of_getElem? hx)
   simp only [] at hlx
   have hst:=first_step (p:=fun x:(Int×Int×Bool×List ByteArray)=>inS s x.2.2.2) hx
   refine v_skip ?_;refine n7 _ _ (weak_keep [1,7,8,9] _) ?_;refine zk ⟨?_⟩;refine v_seq ?_;intro Q9 n9 e9 r9;refine v_block ?_;intro Q10 n10 x10 e10 r10;refine v_seqR [1,5,6,7,8,9] ?_;intro K11 k11
   have F:=Fc.mk (fun f=>getD_map (f:=f) hx)
   refine zq23 ⟨?_⟩;refine k11 _ ?_;refine zk ⟨?_⟩;refine v_seqR [1,5,7,8,9,17] ?_;intro K12 k12;refine zq26 ⟨?_⟩;refine zc (dsHas_con x3 s hlx) ⟨?_⟩;refine k12 _ ?_;refine zk ⟨?_⟩;refine v_condS _ rfl ?_ ?_
   ·intro hc1
    refine v_seqR [4] ?_;intro K14 k14;refine zq8 ⟨?_⟩;refine k14 _ ?_;refine zk ⟨?_⟩;refine v_ret ?_;refine r10 _ ?_;refine r9 _ ?_;refine r5 _ ?_;refine r4 _ ?_;refine r2 _ ?_;refine r0 _ ?_;refine zf ⟨?_⟩
    exact ret_pure rfl (by rw [commF,←hR,hst,if_pos hc1]) (.inl rfl)
   ·intro hc1
    refine v_skip ?_;refine n10 _ ?_;refine n9 _ _ (weak_keep [1,7,8,9] _) ?_;refine zk ⟨?_⟩;refine v_region ?_;intro K15 k15;refine zq5 ⟨?_⟩;refine k15 _ ?_;refine n5 _ (i+1) ?_ ?_ ?_
    ·refine weak_bothS [1,7,8,9] [] ⟨?_⟩
     rfl
    ·exact ⟨by omega,by rw [←hR,hst,if_neg (by simp [hc1])]⟩
    ·show _ < _;omega
  ·intro hc0
   refine v_exit ?_;refine e7 _ _ ?_;refine e5 _ _ ?_;refine x4 _ ?_;refine n2 _ _ (weak_keep [] _) ?_;refine zk ⟨?_⟩;refine v_seqR [4] ?_;intro K16 k16;refine zAssign ⟨?_⟩;refine k16 _ ?_;refine zk ⟨?_⟩;refine v_ret ?_;refine r0 _ ?_;refine zf ⟨?_⟩
   exact ret_pure rfl (by rw [commF,←hR,first_end (by omega)]) (.inl rfl)
end Go.Proofs.YtaefoaghpehbpaaGreatDoor
