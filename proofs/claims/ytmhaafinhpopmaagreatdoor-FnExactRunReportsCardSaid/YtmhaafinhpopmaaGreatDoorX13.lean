/- What functions compute. No condition. -/
import Derived.Test.YtmhaafinhpopmaaGreatDoorX11
set_option linter.unusedSimpArgs false
set_option linter.unusedVariables false
set_option linter.defProp false
namespace Go.Proofs.YtmhaafinhpopmaaGreatDoor
open Go Go.Vm
set_option maxHeartbeats 8000000
theorem indexFuncIncident_con (l:List TI) (g:Nat) (caps:List V) (p:TI→Bool) (hl:l.length≤1048576) (hc:Caps caps) (hg:∀x0 x1 x2 x3,(x0,x1,x2,x3)∈l→Con Tryz.prog g (V.agg [V.int .i64 x0,V.int .i64 x1,V.bool x2,V.sl (x3.map V.str)]::caps) [] (.bool (p (x0,x1,x2,x3))) []):Con Tryz.prog 187 [.sl (l.map (fun t:TI=>V.agg [V.int .i64 t.1,V.int .i64 t.2.1,V.bool t.2.2.1,V.sl (t.2.2.2.map V.str)])),.fn g caps] [] (.int .i64 (firstP p 0 l)) []:=by
 refine v_con [.tmp 4] [] Tryz.func187 rfl rfl rfl (by simp [Tryz.ntmps187]) ?_;intro Q0 n0 r0;simp only [Tryz.ntmps187,envFrom,Nat.reduceAdd];have T:=Tys.mk (ai Ty.t3 (ai Ty.t4 (ai Ty.t9 (ai Ty.t59 (ai Ty.t64 Ty.t154)))));have F:=Fc.mk True.intro;refine yR [0,1] ⟨?_⟩;refine v_seq ?_;intros;refine yR [0,1,7,8] ⟨?_⟩;refine v_block ?_;intros;refine v_loop (fun i=>⟨[(0,.sl (l.map (fun t:TI=>V.agg [V.int .i64 t.1,V.int .i64 t.2.1,V.bool t.2.2.1,V.sl (t.2.2.2.map V.str)]))),(1,.fn g caps),(7,.int .i64 l.length),(8,.int .i64 (Nat.cast i))],[],false,19,0⟩) (fun i=>i≤l.length∧firstP p i (l.drop i)=firstP p 0 l) (fun i=>l.length - i) 0 ?_ ?_ ?_
 ·refine weak_of [0,1,7,8] ?_;simp only [keep_mk,keepE_nil,keepE_cons,look_cons,look_nil,Nat.reduceEqDiff,reduceIte];rfl
 ·exact ⟨qld _,rfl⟩
 ·rintro i hok5 Q5 n5 e5 r5;obtain ⟨hi1,hR⟩:=hok5;refine yR [0,1,7,8,9] ⟨?_⟩;refine v_seq ?_;intros;refine v_condS _ rfl ?_ ?_
  ·intro hc0;have hlt:i < l.length:=by omega
   obtain ⟨⟨x0,x1,x2,x3⟩,hx⟩:∃x:TI,l[i]? =some x:=⟨l[i]'(by omega),qla (by omega)⟩;have hst:=first_step (p:=p) hx;refine zn [0,1,7,8] ⟨?_⟩;refine v_seq ?_;intros;refine v_block ?_;intros;have F:=Fc.mk (gdm hx);refine yR [0,1,5,7,8] ⟨?_⟩;refine v_seqR [0,1,5,7,8,16] ?_;intro K12 k12;refine zq4 ⟨?_⟩;refine zMove ⟨?_⟩;refine zIndexAddr ⟨?_⟩;refine zLoad ⟨?_⟩;refine zcc (hg x0 x1 x2 x3 (qlb hx)) ⟨?_⟩;refine k12 _ ?_;refine zk ⟨?_⟩;refine v_condS _ rfl ?_ ?_
   ·intro hc1;refine yR [4] ⟨?_⟩;refine zr ⟨?_⟩;exact ret_pure rfl (by rw [←hR,hst,if_pos hc1]) (.inl rfl)
   ·intro hc1;refine zn [0,1,7,8] ⟨?_⟩;refine yV ⟨?_⟩;refine n5 _ (i+1) ?_ ?_ ?_
    ·refine weak_bothC [0,1,7,8] [] ⟨?_⟩;rfl
    ·exact ⟨by omega,by rw [←hR,hst,if_neg (by simp [hc1])]⟩
    ·show _ < _;omega
  ·intro hc0;refine zn [] ⟨?_⟩;refine yR [4] ⟨?_⟩;refine zr ⟨?_⟩;exact ret_pure rfl (by rw [←hR,first_end (by omega)]) (.inl rfl)
def incOK (x:TI):Bool:=(decide (1≤x.1) && decide (x.1≤999)) && (decide (0≤x.2.1) && decide (x.2.1≤13)) && !decide (12 < (x.2.2.2.length:Int)) && !(x.2.2.1 && decide (0 < (x.2.2.2.length:Int))) && chainAt nameB strLt x.2.2.2 0
def clashB (pre:List TI) (x:TI):Bool:=x.2.2.2.any fun s=>pre.any fun y=>inS s y.2.2.2
def incP (l:List TI) (i:Nat):Bool:=match l[i]? with
  | none=>true
  | some x=>incOK x && (decide (i=0) || match l[i - 1]? with | some y=>decide (y.1 < x.1) | none=>true) && !clashB (l.take i) x
def incsB (l:List TI):Bool:=(List.range l.length).all (incP l) && decide ((l.length:Int)≤8)
theorem incs_bad {l:List TI} {i:Nat} (hi:i < l.length) (h:incP l i=false):incsB l=false:=by
  have:(List.range l.length).all (incP l)=false:=by
    rw [List.all_eq_false];exact ⟨i,List.mem_range.2 hi,by rw [h];simp⟩
  rw [incsB,this];rfl
theorem incs_good {l:List TI} {i:Nat} (hi:l.length≤i) (h:∀j,j < i→incP l j=true):incsB l=decide ((l.length:Int)≤8):=by
  have:(List.range l.length).all (incP l)=true:=by
    rw [qls];intro j hj;exact h j (ql0 (List.mem_range.1 hj) hi)
  rw [incsB,this];rfl
theorem upto_step {P:Nat→Bool} {i:Nat} (h:∀j,j < i→P j=true) (hi:P i=true):∀j,j < i+1→P j=true:=by
  intro j hj;rcases qlt j i with q | q
  · exact h j q
  · have:j=i:=by omega
    subst this;exact hi
theorem incP_zero {l:List TI} {x:TI} (h:l[0]? =some x):incP l 0=(incOK x && !clashB (l.take 0) x):=by
  rw [incP,h];simp
theorem incP_succ {l:List TI} {i:Nat} {x y:TI} (h0:0 < i) (hy:l[i - 1]? =some y) (h:l[i]? =some x):incP l i=(incOK x && decide (y.1 < x.1) && !clashB (l.take i) x):=by
  rw [incP,h];simp only [hy,decide_eq_false (show ¬i=0 by omega),Bool.false_or]
def openF (l:List TI) (n:Int):Int:=firstP (fun x:TI=>decide (x.1=n) && !x.2.2.1) 0 l
def commF (l:List TI) (s:ByteArray):Int:=firstP (fun x:TI=>inS s x.2.2.2) 0 l
theorem comm_any (l:List TI) (s:ByteArray):decide (0≤commF l s)=l.any fun y=>inS s y.2.2.2:=first_any _ l 0
theorem any_swap {α β:Type} (f:α→β→Bool) (l:List α) (m:List β):(l.any fun a=>m.any fun b=>f a b)=(m.any fun b=>l.any fun a=>f a b):=by
  rw [Bool.eq_iff_iff];simp only [List.any_eq_true];exact ⟨fun ⟨a,ha,b,hb,h⟩=>⟨b,hb,a,ha,h⟩,fun ⟨b,hb,a,ha,h⟩=>⟨a,ha,b,hb,h⟩⟩
set_option maxRecDepth 8000 in
theorem isIncident_con (x0:Int) (x1:Int) (x2:Bool) (x3:List ByteArray) (hsz:∀s∈x3,s.size≤9223372036854775807) (hnl:x3.length≤1048576):Con Tryz.prog 184 [.agg [V.int .i64 x0,V.int .i64 x1,V.bool x2,V.sl (x3.map V.str)]] [] (.bool (incOK (x0,x1,x2,x3))) []:=by
 refine v_con [.tmp 2] [] Tryz.func184 rfl rfl rfl (by simp [Tryz.ntmps184]) ?_;intro Q0 n0 r0;simp only [Tryz.ntmps184,envFrom,Nat.reduceAdd];have T:=Tys.mk (ai Ty.t3 (ai Ty.t4 (ai Ty.t9 (ai Ty.t59 Ty.t154))));have F:=Fc.mk True.intro;refine yR [1] ⟨?_⟩;refine v_seq ?_;intros;refine yRcg [1,30] (inside_con _ _ _) (inside_con _ _ _) ⟨?_⟩;refine v_condS _ rfl ?_ ?_
 ·intro hc0;have hh:incOK (x0,x1,x2,x3)=false:=by
   cases hq:incOK (x0,x1,x2,x3) with
   |false=>rfl
   |true=>
    exfalso;have hq2:(((decide (1≤x0) && decide (x0≤999)) && (decide (0≤x1) && decide (x1≤13)) && !decide (12 < (x3.length:Int)) && !(x2 && decide (0 < (x3.length:Int)))) && chainAt nameB strLt x3 0)=true:=hq;rw [qlf] at hq2;have hq3:=hq2.1;generalize (x3.length:Int)=m at hc0 hq3;clear hq hq2;cases x2<;>simp at hc0 hq3<;>omega
  refine yR [2] ⟨?_⟩;refine zr ⟨?_⟩;rw [hh];exact ret_pure rfl rfl (.inl rfl)
 ·intro hc0;have hh:incOK (x0,x1,x2,x3)=chainAt nameB strLt x3 0:=by
   have hb:((decide (1≤x0) && decide (x0≤999)) && (decide (0≤x1) && decide (x1≤13)) && !decide (12 < (x3.length:Int)) && !(x2 && decide (0 < (x3.length:Int))))=true:=by
    generalize (x3.length:Int)=m at hc0⊢;cases x2<;>simp at hc0⊢<;>omega
   show (((decide (1≤x0) && decide (x0≤999)) && (decide (0≤x1) && decide (x1≤13)) && !decide (12 < (x3.length:Int)) && !(x2 && decide (0 < (x3.length:Int)))) && chainAt nameB strLt x3 0)=_;rw [hb];rfl
  refine zn [1] ⟨?_⟩;refine v_seq ?_;intros;refine yR [1,32,33,34] ⟨?_⟩;refine v_block ?_;intros;refine v_loop (fun i=>⟨[(1,.ptr 0 0 0),(32,.sl (x3.map V.str)),(33,.int .i64 x3.length),(34,.int .i64 (Nat.cast i))],[.box (.agg [V.int .i64 x0,V.int .i64 x1,V.bool x2,V.sl (x3.map V.str)]) .shal],false,57,0⟩) (fun i=>i≤x3.length∧chainAt nameB strLt x3 i=chainAt nameB strLt x3 0) (fun i=>x3.length - i) 0 ?_ ?_ ?_
  ·refine weak_bothS [1,32,33,34] [0] ⟨?_⟩;rfl
  ·exact ⟨qld _,rfl⟩
  ·rintro i hok9 Q9 n9 e9 r9;obtain ⟨hi1,hR⟩:=hok9;refine yR [1,32,33,34,35] ⟨?_⟩;refine v_seq ?_;intros;refine v_condS _ rfl ?_ ?_
   ·intro hc1;have hlt:i < x3.length:=by omega
    obtain ⟨s,hx⟩:∃s,x3[i]? =some s:=⟨_,qla hlt⟩;have hsx:=hsz s (qlb hx);rcases ql8 i with h0 | h0
    ·skip;have hi0:¬((0:Int) < (i:Int)):=by omega
     have hst:chainAt nameB strLt x3 i=(nameB s && chainAt nameB strLt x3 (i+1)):=by subst h0;exact chain_zero hx
     refine zn [1,32,33,34] ⟨?_⟩;refine v_seq ?_;intros;refine v_block ?_;intros;have F:=Fc.mk (ai (gdm hx) (ai hi0 (ai @decide_false @qma)));refine yR [1,3,4,32,33,34] ⟨?_⟩;refine yRc [1,32,33,34,55] (isName_con s hsx) ⟨?_⟩;refine v_condS _ rfl ?_ ?_
     ·intro hc2;refine yR [2] ⟨?_⟩;refine zr ⟨?_⟩;rw [hh];exact ret_pure rfl (by rw [←hR,hst];(try simp at hc2);first | (simp [hc2];done) | (rcases hc2 with h | h<;>simp [h];done) | (simp_all;done)) (.inl rfl)
     ·intro hc2;refine zn [1,32,33,34] ⟨?_⟩;refine yV ⟨?_⟩;refine n9 _ (i+1) ?_ ?_ ?_
      ·refine weak_bothS [1,32,33,34] [0] ⟨?_⟩;rfl
      ·exact ⟨by omega,by rw [←hR,hst];(try simp at hc2);first | (simp [hc2];done) | (simp_all;done)⟩
      ·show _ < _;omega
    ·skip;obtain ⟨y,hy⟩:∃y,x3[i - 1]? =some y:=⟨_,qla (by omega)⟩;have hi0:(0:Int) < i:=by omega
     have hk:((i:Int) - 1).toNat=i - 1:=by omega
     have hst:=chain_succ (ok:=nameB) (bf:=strLt) h0 hy hx;refine zn [1,32,33,34] ⟨?_⟩;refine v_seq ?_;intros;refine v_block ?_;intros;have F:=Fc.mk (ai (gdm hx) (ai hi0 (ai hk (ai (gdm hy) (ai @decide_true @qmb)))));refine yR [1,3,4,32,33,34] ⟨?_⟩;refine yRc [1,32,33,34,55] (isName_con s hsx) ⟨?_⟩;refine v_condS _ rfl ?_ ?_
     ·intro hc2;refine yR [2] ⟨?_⟩;refine zr ⟨?_⟩;rw [hh];exact ret_pure rfl (by rw [←hR,hst];(try simp at hc2);first | (simp [hc2];done) | (rcases hc2 with h | h<;>simp [h];done) | (simp_all;done)) (.inl rfl)
     ·intro hc2;refine zn [1,32,33,34] ⟨?_⟩;refine yV ⟨?_⟩;refine n9 _ (i+1) ?_ ?_ ?_
      ·refine weak_bothS [1,32,33,34] [0] ⟨?_⟩;rfl
      ·exact ⟨by omega,by rw [←hR,hst];(try simp at hc2);first | (simp [hc2];done) | (simp_all;done)⟩
      ·show _ < _;omega
   ·intro hc1;refine zn [] ⟨?_⟩;refine yR [2] ⟨?_⟩;refine zr ⟨?_⟩;rw [hh];exact ret_pure rfl (by rw [←hR,chain_end (by omega)]) (.inl rfl)
set_option maxRecDepth 8000 in
theorem ixOne_con (x0:Int) (x1:Int) (x2:Bool) (x3:List ByteArray) (hsz:∀s∈x3,s.size≤9223372036854775807) (hnl:x3.length≤1048576):Con Tryz.prog 170 [.agg [V.int .i64 x0,V.int .i64 x1,V.bool x2,V.sl (x3.map V.str)]] [] (.bool (incOK (x0,x1,x2,x3))) []:=by
 have hcs:=chain_split (ok:=nameB) (bf:=strLt) (l:=x3);refine v_con [.tmp 2] [] Tryz.func170 rfl rfl rfl (by simp [Tryz.ntmps170]) ?_;intro Q0 n0 r0;simp only [Tryz.ntmps170,envFrom,Nat.reduceAdd];have T:=Tys.mk (ai Ty.t3 (ai Ty.t4 (ai Ty.t9 (ai Ty.t59 Ty.t154))));have F:=Fc.mk True.intro;refine yR [1] ⟨?_⟩;refine v_seq ?_;intros;refine v_seqR [1,36] ?_;intro K3 k3;refine zq9 ⟨?_⟩;refine zc (l1In_con _ _ _) ⟨?_⟩;refine zq8 ⟨?_⟩;refine zq3 ⟨?_⟩;refine zgc (apNode_con _) ⟨?_⟩;refine zgUnOp ⟨?_⟩;refine zq7 ⟨?_⟩;refine zgLen ⟨?_⟩;refine zgBinOp ⟨?_⟩;refine zq7 ⟨?_⟩;refine zgMove ⟨?_⟩;refine zq3 ⟨?_⟩;refine zgLen ⟨?_⟩;refine zgBinOp ⟨?_⟩;refine zgPick ⟨?_⟩;refine zq7 ⟨?_⟩;refine zgc (dsNames_con x3 hnl) ⟨?_⟩;refine zgUnOp ⟨?_⟩;refine v_op ?_;intro K k;simp only [zE,zP,aStepM,optable,set_some,Nat.reduceEqDiff,reduceIte,Nat.reduceLT,implies_true,forall_const,reduceCtorEq,V.ofValue,V.ofScalar,V.un,V.gd,aExec,aop,pickV];repeat (refine ai (by first | (intro h;rw [h];rfl) | omega | (intros;simp_all;done)) ?_)
 refine k _ ?_;clear k K;refine k3 _ ?_;refine zk ⟨?_⟩;refine v_condS _ rfl ?_ ?_
 ·intro hc0;have hh:incOK (x0,x1,x2,x3)=false:=by
   cases hq:incOK (x0,x1,x2,x3) with
   |false=>rfl
   |true=>
    exfalso;have hq2:(((decide (1≤x0) && decide (x0≤999)) && (decide (0≤x1) && decide (x1≤13)) && !decide (12 < (x3.length:Int)) && !(x2 && decide (0 < (x3.length:Int)))) && chainAt nameB strLt x3 0)=true:=hq;rw [qlf] at hq2;have hq3:=hq2.1;have hq4:chainAt (fun _:ByteArray=>true) strLt x3 0=true:=by have q:=hq2.2;rw [hcs,qlf] at q;exact q.1
    rw [hq4] at hc0;generalize (x3.length:Int)=m at hc0 hq3;clear hq hq2 hq4;cases x2<;>simp at hc0 hq3<;>omega
  refine yR [2] ⟨?_⟩;refine zr ⟨?_⟩;rw [hh];exact ret_pure rfl rfl (.inl rfl)
 ·intro hc0;have hb2:chainAt (fun _:ByteArray=>true) strLt x3 0=true:=by
   cases q:chainAt (fun _:ByteArray=>true) strLt x3 0 with
   |true=>rfl
   |false=>(rw [q] at hc0;simp at hc0)
  have hh:incOK (x0,x1,x2,x3)=x3.all nameB:=by
   have hb:((decide (1≤x0) && decide (x0≤999)) && (decide (0≤x1) && decide (x1≤13)) && !decide (12 < (x3.length:Int)) && !(x2 && decide (0 < (x3.length:Int))))=true:=by
    rw [hb2] at hc0;generalize (x3.length:Int)=m at hc0⊢;cases x2<;>simp at hc0⊢<;>omega
   show (((decide (1≤x0) && decide (x0≤999)) && (decide (0≤x1) && decide (x1≤13)) && !decide (12 < (x3.length:Int)) && !(x2 && decide (0 < (x3.length:Int)))) && chainAt nameB strLt x3 0)=_;rw [hb,hcs,hb2];rfl
  refine zn [1] ⟨?_⟩;refine v_seq ?_;intros;refine yR [38,39,40] ⟨?_⟩;refine v_block ?_;intros;refine v_loop (fun i=>⟨[(38,.sl (x3.map V.str)),(39,.int .i64 x3.length),(40,.int .i64 (Nat.cast i))],[],false,48,0⟩) (fun i=>i≤x3.length∧(x3.drop i).all nameB=x3.all nameB) (fun i=>x3.length - i) 0 ?_ ?_ ?_
  ·refine weak_bothS [38,39,40] [] ⟨?_⟩;rfl
  ·exact ⟨qld _,rfl⟩
  ·rintro i hok9 Q9 n9 e9 r9;obtain ⟨hi1,hR⟩:=hok9;refine yR [38,39,40,41] ⟨?_⟩;refine v_seq ?_;intros;refine v_condS _ rfl ?_ ?_
   ·intro hc1;have hlt:i < x3.length:=by omega
    obtain ⟨s,hx⟩:∃s,x3[i]? =some s:=⟨_,qla hlt⟩;have hsx:=hsz s (qlb hx);have hst:=all_step (p:=nameB) hx;refine zn [38,39,40] ⟨?_⟩;refine v_seq ?_;intros;refine v_block ?_;intros;have F:=Fc.mk (gdm hx);refine yR [4,38,39,40] ⟨?_⟩;refine yRc [38,39,40,46] (apName_con s hsx) ⟨?_⟩;refine v_condS _ rfl ?_ ?_
    ·intro hc2;refine yR [2] ⟨?_⟩;refine zr ⟨?_⟩;rw [hh];exact ret_pure rfl (by rw [←hR,hst];simp [hc2]) (.inl rfl)
    ·intro hc2;refine zn [38,39,40] ⟨?_⟩;refine yV ⟨?_⟩;refine n9 _ (i+1) ?_ ?_ ?_
     ·refine weak_bothS [38,39,40] [] ⟨?_⟩;rfl
     ·exact ⟨by omega,by rw [←hR,hst];simp [hc2]⟩
     ·show _ < _;omega
   ·intro hc1;refine zn [] ⟨?_⟩;refine yR [2] ⟨?_⟩;refine zr ⟨?_⟩;rw [hh];exact ret_pure rfl (by rw [←hR,all_end (by omega)]) (.inl rfl)
theorem openAt1_con (x0:Int) (x1:Int) (x2:Bool) (x3:List ByteArray) (n:Int):Con Tryz.prog 190 [.agg [V.int .i64 x0,V.int .i64 x1,V.bool x2,V.sl (x3.map V.str)],.pv [.int .i64 n] 0 0] [] (.bool (decide (x0=n) && !x2)) []:=by
 refine v_con [.tmp 3] [] Tryz.func190 rfl rfl rfl (by simp [Tryz.ntmps190]) ?_;intro Q0 n0 r0;simp only [Tryz.ntmps190,envFrom,Nat.reduceAdd];have T:=Tys.mk (ai Ty.t3 (ai Ty.t4 (ai Ty.t9 (ai Ty.t59 Ty.t154))));have F:=Fc.mk True.intro;refine yR [1,2] ⟨?_⟩;refine yR [3] ⟨?_⟩;refine zr ⟨?_⟩;exact ret_pure rfl (by first | rfl | simp) (.inl rfl)
theorem openAt_con (l:List TI) (n:Int) (hl:l.length≤1048576):Con Tryz.prog 144 [.sl (l.map (fun t:TI=>V.agg [V.int .i64 t.1,V.int .i64 t.2.1,V.bool t.2.2.1,V.sl (t.2.2.2.map V.str)])),.int .i64 n] [] (.int .i64 (openF l n)) []:=by
 refine v_con [.tmp 4] [] Tryz.func144 rfl rfl rfl (by simp [Tryz.ntmps144]) ?_;intro Q0 n0 r0;simp only [Tryz.ntmps144,envFrom,Nat.reduceAdd];have T:=Tys.mk (ai Ty.t3 (ai Ty.t4 (ai Ty.t9 (ai Ty.t59 (ai Ty.t64 (ai Ty.t154 Ty.t194))))));have F:=Fc.mk True.intro;refine yR [0,3] ⟨?_⟩;refine yRc [4] (indexFuncIncident_con l _ _ (fun x=>decide (x.1=n) && !x.2.2.1) hl (.pv _ .nil) (fun x0 x1 x2 x3 _=>openAt1_con x0 x1 x2 x3 n)) ⟨?_⟩;refine zr ⟨?_⟩;exact ret_pure rfl rfl (.inl rfl)
theorem committedAt1_con (x0:Int) (x1:Int) (x2:Bool) (x3:List ByteArray) (s:ByteArray) (hlx:x3.length≤1048576):Con Tryz.prog 188 [.agg [V.int .i64 x0,V.int .i64 x1,V.bool x2,V.sl (x3.map V.str)],.pv [.str s] 0 0] [] (.bool (inS s x3)) []:=by
 refine v_con [.tmp 3] [] Tryz.func188 rfl rfl rfl (by simp [Tryz.ntmps188]) ?_;intro Q0 n0 r0;simp only [Tryz.ntmps188,envFrom,Nat.reduceAdd];have T:=Tys.mk (ai Ty.t3 (ai Ty.t4 (ai Ty.t9 (ai Ty.t59 Ty.t154))));have F:=Fc.mk True.intro;refine yR [1,2] ⟨?_⟩;refine yRc [3] (slContainsS_con x3 s hlx) ⟨?_⟩;refine zr ⟨?_⟩;exact ret_pure rfl rfl (.inl rfl)
theorem committedAt_con (l:List TI) (s:ByteArray) (hl:l.length≤1048576) (hli:∀x∈l,x.2.2.2.length≤1048576):Con Tryz.prog 143 [.sl (l.map (fun t:TI=>V.agg [V.int .i64 t.1,V.int .i64 t.2.1,V.bool t.2.2.1,V.sl (t.2.2.2.map V.str)])),.str s] [] (.int .i64 (commF l s)) []:=by
 refine v_con [.tmp 4] [] Tryz.func143 rfl rfl rfl (by simp [Tryz.ntmps143]) ?_;intro Q0 n0 r0;simp only [Tryz.ntmps143,envFrom,Nat.reduceAdd];have T:=Tys.mk (ai Ty.t3 (ai Ty.t4 (ai Ty.t9 (ai Ty.t59 (ai Ty.t64 (ai Ty.t154 Ty.t194))))));have F:=Fc.mk True.intro;refine yR [0,3] ⟨?_⟩;refine yRc [4] (indexFuncIncident_con l _ _ (fun x=>inS s x.2.2.2) hl (.pv _ .nil) (fun x0 x1 x2 x3 hm=>committedAt1_con x0 x1 x2 x3 s (hli _ hm))) ⟨?_⟩;refine zr ⟨?_⟩;exact ret_pure rfl rfl (.inl rfl)
theorem ixFind_con (l:List TI) (n:Int) (hl:l.length≤1048576):Con Tryz.prog 125 [.sl (l.map (fun t:TI=>V.agg [V.int .i64 t.1,V.int .i64 t.2.1,V.bool t.2.2.1,V.sl (t.2.2.2.map V.str)])),.int .i64 n] [] (.int .i64 (openF l n)) []:=by
 refine v_con [.tmp 4] [] Tryz.func125 rfl rfl rfl (by simp [Tryz.ntmps125]) ?_;intro Q0 n0 r0;simp only [Tryz.ntmps125,envFrom,Nat.reduceAdd];have T:=Tys.mk (ai Ty.t3 (ai Ty.t4 (ai Ty.t9 (ai Ty.t59 (ai Ty.t64 Ty.t154)))));have F:=Fc.mk True.intro;refine yR [0,1] ⟨?_⟩;refine v_seq ?_;intros;refine yR [1,7,8,9] ⟨?_⟩;refine v_block ?_;intros;refine v_loop (fun i=>⟨[(1,.int .i64 n),(7,.sl (l.map (fun t:TI=>V.agg [V.int .i64 t.1,V.int .i64 t.2.1,V.bool t.2.2.1,V.sl (t.2.2.2.map V.str)]))),(8,.int .i64 l.length),(9,.int .i64 (Nat.cast i))],[],false,25,0⟩) (fun i=>i≤l.length∧firstP (fun x:TI=>decide (x.1=n) && !x.2.2.1) i (l.drop i)=firstP (fun x:TI=>decide (x.1=n) && !x.2.2.1) 0 l) (fun i=>l.length - i) 0 ?_ ?_ ?_
 ·refine weak_of [1,7,8,9] ?_;simp only [keep_mk,keepE_nil,keepE_cons,look_cons,look_nil,Nat.reduceEqDiff,reduceIte];rfl
 ·exact ⟨qld _,rfl⟩
 ·rintro i hok5 Q5 n5 e5 r5;obtain ⟨hi1,hR⟩:=hok5;refine yR [1,7,8,9,10] ⟨?_⟩;refine v_seq ?_;intros;refine v_condS _ rfl ?_ ?_
  ·intro hc0;have hlt:i < l.length:=by omega
   obtain ⟨⟨x0,x1,x2,x3⟩,hx⟩:∃x:TI,l[i]? =some x:=⟨l[i]'(by omega),qla (by omega)⟩;have hst:=first_step (p:=fun x:TI=>decide (x.1=n) && !x.2.2.1) hx;refine zn [1,7,8,9] ⟨?_⟩;refine v_seq ?_;intros;refine v_block ?_;intros;have F:=Fc.mk (gdm hx);refine yR [1,5,6,7,8,9] ⟨?_⟩;refine yR [1,5,7,8,9,22] ⟨?_⟩;refine v_condS _ rfl ?_ ?_
   ·intro hc1;refine yR [4] ⟨?_⟩;refine zr ⟨?_⟩;exact ret_pure rfl (by rw [openF,←hR,hst,if_pos (by simpa using hc1)]) (.inl rfl)
   ·intro hc1;refine zn [1,7,8,9] ⟨?_⟩;refine yV ⟨?_⟩;refine n5 _ (i+1) ?_ ?_ ?_
    ·refine weak_bothS [1,7,8,9] [] ⟨?_⟩;rfl
    ·exact ⟨by omega,by rw [←hR,hst,if_neg (by simpa using hc1)]⟩
    ·show _ < _;omega
  ·intro hc0;refine zn [] ⟨?_⟩;refine yR [4] ⟨?_⟩;refine zr ⟨?_⟩;exact ret_pure rfl (by rw [openF,←hR,first_end (by omega)]) (.inl rfl)
theorem ixOf_con (l:List TI) (s:ByteArray) (hl:l.length≤1048576) (hli:∀x∈l,x.2.2.2.length≤1048576):Con Tryz.prog 124 [.sl (l.map (fun t:TI=>V.agg [V.int .i64 t.1,V.int .i64 t.2.1,V.bool t.2.2.1,V.sl (t.2.2.2.map V.str)])),.str s] [] (.int .i64 (commF l s)) []:=by
 refine v_con [.tmp 4] [] Tryz.func124 rfl rfl rfl (by simp [Tryz.ntmps124]) ?_;intro Q0 n0 r0;simp only [Tryz.ntmps124,envFrom,Nat.reduceAdd];have T:=Tys.mk (ai Ty.t3 (ai Ty.t4 (ai Ty.t9 (ai Ty.t59 (ai Ty.t64 Ty.t154)))));have F:=Fc.mk True.intro;refine yR [0,1] ⟨?_⟩;refine v_seq ?_;intros;refine yR [1,7,8,9] ⟨?_⟩;refine v_block ?_;intros;refine v_loop (fun i=>⟨[(1,.str s),(7,.sl (l.map (fun t:TI=>V.agg [V.int .i64 t.1,V.int .i64 t.2.1,V.bool t.2.2.1,V.sl (t.2.2.2.map V.str)]))),(8,.int .i64 l.length),(9,.int .i64 (Nat.cast i))],[],false,20,0⟩) (fun i=>i≤l.length∧firstP (fun x:TI=>inS s x.2.2.2) i (l.drop i)=firstP (fun x:TI=>inS s x.2.2.2) 0 l) (fun i=>l.length - i) 0 ?_ ?_ ?_
 ·refine weak_of [1,7,8,9] ?_;simp only [keep_mk,keepE_nil,keepE_cons,look_cons,look_nil,Nat.reduceEqDiff,reduceIte];rfl
 ·exact ⟨qld _,rfl⟩
 ·rintro i hok5 Q5 n5 e5 r5;obtain ⟨hi1,hR⟩:=hok5;refine yR [1,7,8,9,10] ⟨?_⟩;refine v_seq ?_;intros;refine v_condS _ rfl ?_ ?_
  ·intro hc0;have hlt:i < l.length:=by omega
   obtain ⟨⟨x0,x1,x2,x3⟩,hx⟩:∃x:TI,l[i]? =some x:=⟨l[i]'(by omega),qla (by omega)⟩;have hlx:=hli _ (qlb hx);simp only [] at hlx;have hst:=first_step (p:=fun x:TI=>inS s x.2.2.2) hx;refine zn [1,7,8,9] ⟨?_⟩;refine v_seq ?_;intros;refine v_block ?_;intros;have F:=Fc.mk (gdm hx);refine yR [1,5,6,7,8,9] ⟨?_⟩;refine yRc [1,5,7,8,9,17] (dsHas_con x3 s hlx) ⟨?_⟩;refine v_condS _ rfl ?_ ?_
   ·intro hc1;refine yR [4] ⟨?_⟩;refine zr ⟨?_⟩;exact ret_pure rfl (by rw [commF,←hR,hst,if_pos hc1]) (.inl rfl)
   ·intro hc1;refine zn [1,7,8,9] ⟨?_⟩;refine yV ⟨?_⟩;refine n5 _ (i+1) ?_ ?_ ?_
    ·refine weak_bothS [1,7,8,9] [] ⟨?_⟩;rfl
    ·exact ⟨by omega,by rw [←hR,hst,if_neg (by simp [hc1])]⟩
    ·show _ < _;omega
  ·intro hc0;refine zn [] ⟨?_⟩;refine yR [4] ⟨?_⟩;refine zr ⟨?_⟩;exact ret_pure rfl (by rw [commF,←hR,first_end (by omega)]) (.inl rfl)
end Go.Proofs.YtmhaafinhpopmaaGreatDoor
