/- What functions compute. No condition. -/
import Derived.Test.YtcdpeopiajgljaaUz
import Derived.Test.YtcdpeopiajgljaaUty
import Derived.Test.YtcdpeopiajgljaaUmG
import Derived.Test.YtcdpeopiajgljaaX1
set_option linter.unusedSimpArgs false
set_option linter.unusedVariables false
set_option linter.defProp false
namespace Go.Proofs.Ytcdpeopiajgljaa
open Go Go.Vm
set_option maxHeartbeats 8000000
def cOne (x:(Int×Int×Int×Int×Int)):Bool:=(decide (0≤x.1) && decide (x.1≤99999)) && (decide (0≤x.2.1) && decide (x.2.1≤9999)) && (decide (0≤x.2.2.1) && decide (x.2.2.1≤9999)) && (decide (0≤x.2.2.2.1) && decide (x.2.2.2.1≤5)) && (decide (1≤x.2.2.2.2) && decide (x.2.2.2.2≤9999))
def cBefore (x y:(Int×Int×Int×Int×Int)):Bool:=decide (x.1≤y.1)
def csB (l:List (Int×Int×Int×Int×Int)):Bool:=chainAt cOne cBefore l 0 && decide ((l.length:Int)≤20)
def winB (w r:Int):Bool:=(decide (0≤w) && decide (w≤120)) && (decide (0≤r) && decide (r≤5000))
def absI (a b:Int):Int:=if a < b then b - a else a - b
def farC (x y:(Int×Int×Int×Int×Int)):Int:=absI x.2.1 y.2.1+absI x.2.2.1 y.2.2.1
def nearB (w r:Int) (x y:(Int×Int×Int×Int×Int)):Bool:=decide (absI x.1 y.1≤w) && decide (farC x y≤r) && (decide (x.2.2.2.1=y.2.2.2.1) || decide (x.2.2.2.1=0) || decide (y.2.2.2.1=0))
theorem absI_comm (a b:Int):absI a b=absI b a:=by unfold absI;split<;>split<;>omega
theorem near_comm (w r:Int) (x y:(Int×Int×Int×Int×Int)):nearB w r x y=nearB w r y x:=by
  unfold nearB farC
  rw [absI_comm x.1,absI_comm x.2.1,absI_comm x.2.2.1,Bool.or_assoc,Bool.or_assoc,Bool.or_comm (decide (x.2.2.2.1=0)),decide_eq_decide.2 (eq_comm (a:=x.2.2.2.1) (b:=y.2.2.2.1))]
theorem c_bounds {x:(Int×Int×Int×Int×Int)} (h:cOne x=true):(0≤x.1∧x.1≤99999)∧(0≤x.2.1∧x.2.1≤9999)∧(0≤x.2.2.1∧x.2.2.1≤9999)∧(0≤x.2.2.2.1∧x.2.2.2.1≤5)∧(1≤x.2.2.2.2∧x.2.2.2.2≤9999):=by
  simp only [cOne,Bool.and_eq_true,decide_eq_true_eq] at h
  omega
theorem cs_each {l:List (Int×Int×Int×Int×Int)} (h:csB l=true):∀x∈l,cOne x=true:=by
  simp only [csB,Bool.and_eq_true] at h
  exact chain_ok h.1
theorem cs_len {l:List (Int×Int×Int×Int×Int)} (h:csB l=true):l.length≤20:=by
  simp only [csB,Bool.and_eq_true,decide_eq_true_eq] at h
  omega
theorem near_self {w r:Int} (h:winB w r=true) (x:(Int×Int×Int×Int×Int)):nearB w r x x=true:=by
  simp only [winB,Bool.and_eq_true,decide_eq_true_eq] at h
  have h0:∀a:Int,absI a a=0:=fun a=>by unfold absI;split<;>omega
  simp [nearB,farC,h0];omega
theorem isCall_con (x0:Int) (x1:Int) (x2:Int) (x3:Int) (x4:Int):Con Try.prog 73 [.agg [V.int .i64 x0,V.int .i64 x1,V.int .i64 x2,V.int .i64 x3,V.int .i64 x4]] [] (.bool (cOne (x0,x1,x2,x3,x4))) []:=by
 refine v_con [.tmp 2] [] Try.func73 rfl rfl rfl (by simp [Try.ntmps73]) ?_
 intro Q0 n0 r0
 simp only [Try.ntmps73,envFrom,Nat.reduceAdd]
 have T:=Tys.mk (ai Ty.t3 (ai Ty.t4 Ty.t65))
 have F:=Fc.mk True.intro
 refine yR [1] ⟨?_⟩;refine v_seqR [2] ?_;intro K2 k2;refine zFieldAddr ⟨?_⟩;refine zLoad ⟨?_⟩;refine zc (inside_con _ _ _) ⟨?_⟩;refine zq6 ⟨?_⟩;refine zgc (inside_con _ _ _) ⟨?_⟩;refine zq8 ⟨?_⟩;refine zgc (inside_con _ _ _) ⟨?_⟩;refine zq8 ⟨?_⟩;refine zgc (inside_con _ _ _) ⟨?_⟩;refine zq8 ⟨?_⟩;refine zgc (inside_con _ _ _) ⟨?_⟩;refine zPick ⟨?_⟩;refine zAssign ⟨?_⟩;refine k2 _ ?_;refine zq2 ⟨?_⟩
 exact ret_pure rfl (by first | rfl | simp [cOne,Bool.and_assoc]) (.inl rfl)
theorem clOne_con (x0:Int) (x1:Int) (x2:Int) (x3:Int) (x4:Int):Con Try.prog 75 [.agg [V.int .i64 x0,V.int .i64 x1,V.int .i64 x2,V.int .i64 x3,V.int .i64 x4]] [] (.bool (cOne (x0,x1,x2,x3,x4))) []:=by
 refine v_con [.tmp 2] [] Try.func75 rfl rfl rfl (by simp [Try.ntmps75]) ?_
 intro Q0 n0 r0
 simp only [Try.ntmps75,envFrom,Nat.reduceAdd]
 have T:=Tys.mk (ai Ty.t3 (ai Ty.t4 Ty.t65))
 have F:=Fc.mk True.intro
 refine yR [1] ⟨?_⟩;refine v_seqR [2] ?_;intro K2 k2;refine zFieldAddr ⟨?_⟩;refine zLoad ⟨?_⟩;refine zc (l1In_con _ _ _) ⟨?_⟩;refine zq6 ⟨?_⟩;refine zgc (l1In_con _ _ _) ⟨?_⟩;refine zq8 ⟨?_⟩;refine zgc (l1In_con _ _ _) ⟨?_⟩;refine zq8 ⟨?_⟩;refine zgc (l1In_con _ _ _) ⟨?_⟩;refine zq8 ⟨?_⟩;refine zgc (l1In_con _ _ _) ⟨?_⟩;refine zPick ⟨?_⟩;refine zAssign ⟨?_⟩;refine k2 _ ?_;refine zq2 ⟨?_⟩
 exact ret_pure rfl (by first | rfl | simp [cOne,Bool.and_assoc]) (.inl rfl)
theorem between_con (a b:Int) (ha:0≤a∧a≤99999) (hb:0≤b∧b≤99999):Con Try.prog 108 [.int .i64 a,.int .i64 b] [] (.int .i64 (absI a b)) []:=by
 refine v_con [.tmp 4] [] Try.func108 rfl rfl rfl (by simp [Try.ntmps108]) ?_
 intro Q0 n0 r0
 simp only [Try.ntmps108,envFrom,Nat.reduceAdd]
 have T:=Tys.mk Ty.t3
 have F:=Fc.mk True.intro
 refine yR [0,1] ⟨?_⟩;refine yR [4] ⟨?_⟩;refine zr ⟨?_⟩
 exact ret_pure rfl (by congr 1;unfold absI;(repeat' split)<;>omega) (.inl rfl)
theorem l1Abs_con (a b:Int) (ha:0≤a∧a≤99999) (hb:0≤b∧b≤99999):Con Try.prog 110 [.int .i64 (a - b)] [] (.int .i64 (absI a b)) []:=by
 have hneg:IntKind.i64.wrap (-(a - b))=-(a - b):=wrap64 (by omega) (by omega)
 refine v_con [.tmp 2] [] Try.func110 rfl rfl rfl (by simp [Try.ntmps110]) ?_
 intro Q0 n0 r0
 simp only [Try.ntmps110,envFrom,Nat.reduceAdd]
 have T:=Tys.mk Ty.t3
 have F:=Fc.mk True.intro
 refine yR [0] ⟨?_⟩;refine yRc [2] (l1Most_con (a - b) (IntKind.i64.wrap (-(a - b)))) ⟨?_⟩;refine zr ⟨?_⟩
 exact ret_pure rfl (by rw [hneg];congr 1;unfold absI;(repeat' split)<;>omega) (.inl rfl)
theorem distance_con (x0:Int) (x1:Int) (x2:Int) (x3:Int) (x4:Int) (y0:Int) (y1:Int) (y2:Int) (y3:Int) (y4:Int) (hx:cOne (x0,x1,x2,x3,x4)=true) (hy:cOne (y0,y1,y2,y3,y4)=true):Con Try.prog 109 [.agg [V.int .i64 x0,V.int .i64 x1,V.int .i64 x2,V.int .i64 x3,V.int .i64 x4],.agg [V.int .i64 y0,V.int .i64 y1,V.int .i64 y2,V.int .i64 y3,V.int .i64 y4]] [] (.int .i64 (farC (x0,x1,x2,x3,x4) (y0,y1,y2,y3,y4))) []:=by
 obtain ⟨bx0,bx1,bx2,bx3,bx4⟩:=c_bounds hx
 obtain ⟨by0,by1,by2,by3,by4⟩:=c_bounds hy
 simp only [] at bx0 bx1 bx2 bx3 bx4 by0 by1 by2 by3 by4
 have ab1:0≤absI x1 y1∧absI x1 y1≤9999:=by unfold absI;split<;>omega
 have ab2:0≤absI x2 y2∧absI x2 y2≤9999:=by unfold absI;split<;>omega
 refine v_con [.tmp 4] [] Try.func109 rfl rfl rfl (by simp [Try.ntmps109]) ?_
 intro Q0 n0 r0
 simp only [Try.ntmps109,envFrom,Nat.reduceAdd]
 have T:=Tys.mk (ai Ty.t3 Ty.t65)
 have F:=Fc.mk True.intro
 refine yR [2,3] ⟨?_⟩;refine v_seq ?_;intro Q2 n2 e2 r2;refine v_draw (by kernel_rfl) ?_;intro K3 q3 k3
 show aAny _ _ _ _ 12 (Array.replicate 12 false) _
 refine zdFieldAddr q3 true 0 5 ?_;refine zdLoad q3 true 1 6 ?_;refine zdFieldAddr q3 true 2 7 ?_;refine zdLoad q3 true 3 8 ?_;refine zdFieldAddr q3 true 5 10 ?_;refine zdLoad q3 true 6 11 ?_;refine zdFieldAddr q3 true 7 12 ?_;refine zdLoad q3 true 8 13 ?_;refine zoc 4 (between_con x1 y1 (by omega) (by omega)) ⟨?_⟩;refine zoc 9 (between_con x2 y2 (by omega) (by omega)) ⟨?_⟩;refine zdBinOpW q3 true 10 15 ?_;refine zoAssign 11 ⟨?_⟩;refine aAny_done (by kernel_rfl) ?_;refine k3 _ ?_;refine n2 _ _ (weak_keep [4] _) ?_;refine zq2 ⟨?_⟩
 exact ret_pure rfl (by first | rfl | (congr 1;unfold farC absI;(repeat' split)<;>omega)) (.inl rfl)
theorem clFar_con (x0:Int) (x1:Int) (x2:Int) (x3:Int) (x4:Int) (y0:Int) (y1:Int) (y2:Int) (y3:Int) (y4:Int) (hx:cOne (x0,x1,x2,x3,x4)=true) (hy:cOne (y0,y1,y2,y3,y4)=true):Con Try.prog 111 [.agg [V.int .i64 x0,V.int .i64 x1,V.int .i64 x2,V.int .i64 x3,V.int .i64 x4],.agg [V.int .i64 y0,V.int .i64 y1,V.int .i64 y2,V.int .i64 y3,V.int .i64 y4]] [] (.int .i64 (farC (x0,x1,x2,x3,x4) (y0,y1,y2,y3,y4))) []:=by
 obtain ⟨bx0,bx1,bx2,bx3,bx4⟩:=c_bounds hx
 obtain ⟨by0,by1,by2,by3,by4⟩:=c_bounds hy
 simp only [] at bx0 bx1 bx2 bx3 bx4 by0 by1 by2 by3 by4
 have ab1:0≤absI x1 y1∧absI x1 y1≤9999:=by unfold absI;split<;>omega
 have ab2:0≤absI x2 y2∧absI x2 y2≤9999:=by unfold absI;split<;>omega
 refine v_con [.tmp 4] [] Try.func111 rfl rfl rfl (by simp [Try.ntmps111]) ?_
 intro Q0 n0 r0
 simp only [Try.ntmps111,envFrom,Nat.reduceAdd]
 have T:=Tys.mk (ai Ty.t3 Ty.t65)
 have F:=Fc.mk True.intro
 refine yR [2,3] ⟨?_⟩;refine v_seq ?_;intro Q2 n2 e2 r2;refine v_draw (by kernel_rfl) ?_;intro K3 q3 k3
 show aAny _ _ _ _ 14 (Array.replicate 14 false) _
 refine zdFieldAddr q3 true 0 5 ?_;refine zdLoad q3 true 1 6 ?_;refine zdFieldAddr q3 true 2 7 ?_;refine zdLoad q3 true 3 8 ?_;refine zdBinOpW q3 true 4 9 ?_;refine zdFieldAddr q3 true 6 11 ?_;refine zdLoad q3 true 7 12 ?_;refine zdFieldAddr q3 true 8 13 ?_;refine zdLoad q3 true 9 14 ?_;refine zdBinOpW q3 true 10 15 ?_;refine zoc 5 (l1Abs_con x1 y1 (by omega) (by omega)) ⟨?_⟩;refine zoc 11 (l1Abs_con x2 y2 (by omega) (by omega)) ⟨?_⟩;refine zdBinOpW q3 true 12 17 ?_;refine zoAssign 13 ⟨?_⟩;refine aAny_done (by kernel_rfl) ?_;refine k3 _ ?_;refine n2 _ _ (weak_keep [4] _) ?_;refine zq2 ⟨?_⟩
 exact ret_pure rfl (by first | rfl | (congr 1;unfold farC absI;(repeat' split)<;>omega)) (.inl rfl)
theorem oneEvent_con (x0:Int) (x1:Int) (x2:Int) (x3:Int) (x4:Int) (y0:Int) (y1:Int) (y2:Int) (y3:Int) (y4:Int) (hx:cOne (x0,x1,x2,x3,x4)=true) (hy:cOne (y0,y1,y2,y3,y4)=true) (wn rd:Int):Con Try.prog 74 [.agg [V.int .i64 x0,V.int .i64 x1,V.int .i64 x2,V.int .i64 x3,V.int .i64 x4],.agg [V.int .i64 y0,V.int .i64 y1,V.int .i64 y2,V.int .i64 y3,V.int .i64 y4],.int .i64 wn,.int .i64 rd] [] (.bool (nearB wn rd (x0,x1,x2,x3,x4) (y0,y1,y2,y3,y4))) []:=by
 obtain ⟨bx0,bx1,bx2,bx3,bx4⟩:=c_bounds hx
 obtain ⟨by0,by1,by2,by3,by4⟩:=c_bounds hy
 simp only [] at bx0 bx1 bx2 bx3 bx4 by0 by1 by2 by3 by4
 refine v_con [.tmp 8] [] Try.func74 rfl rfl rfl (by simp [Try.ntmps74]) ?_
 intro Q0 n0 r0
 simp only [Try.ntmps74,envFrom,Nat.reduceAdd]
 have T:=Tys.mk (ai Ty.t3 Ty.t65)
 have F:=Fc.mk True.intro
 refine yR [2,3,4,5] ⟨?_⟩;refine yRcg [8] (between_con x0 y0 (by omega) (by omega)) (distance_con x0 x1 x2 x3 x4 y0 y1 y2 y3 y4 hx hy) ⟨?_⟩;refine zr ⟨?_⟩
 exact ret_pure rfl (by first | rfl | (simp [nearB,Bool.and_assoc,Bool.or_assoc];done) | (congr 1;simp only [nearB];by_cases q1:x3=y3<;>by_cases q2:x3=0<;>by_cases q3:y3=0<;>simp [q1,q2,q3])) (.inl rfl)
theorem clSame_con (x0:Int) (x1:Int) (x2:Int) (x3:Int) (x4:Int) (y0:Int) (y1:Int) (y2:Int) (y3:Int) (y4:Int) (hx:cOne (x0,x1,x2,x3,x4)=true) (hy:cOne (y0,y1,y2,y3,y4)=true) (wn rd:Int):Con Try.prog 76 [.agg [V.int .i64 x0,V.int .i64 x1,V.int .i64 x2,V.int .i64 x3,V.int .i64 x4],.agg [V.int .i64 y0,V.int .i64 y1,V.int .i64 y2,V.int .i64 y3,V.int .i64 y4],.int .i64 wn,.int .i64 rd] [] (.bool (nearB wn rd (x0,x1,x2,x3,x4) (y0,y1,y2,y3,y4))) []:=by
 obtain ⟨bx0,bx1,bx2,bx3,bx4⟩:=c_bounds hx
 obtain ⟨by0,by1,by2,by3,by4⟩:=c_bounds hy
 simp only [] at bx0 bx1 bx2 bx3 bx4 by0 by1 by2 by3 by4
 refine v_con [.tmp 8] [] Try.func76 rfl rfl rfl (by simp [Try.ntmps76]) ?_
 intro Q0 n0 r0
 simp only [Try.ntmps76,envFrom,Nat.reduceAdd]
 have T:=Tys.mk (ai Ty.t3 Ty.t65)
 have F:=Fc.mk True.intro
 refine yR [2,3,4,5] ⟨?_⟩;refine yRcg [8] (l1Abs_con x0 y0 (by omega) (by omega)) (clFar_con x0 x1 x2 x3 x4 y0 y1 y2 y3 y4 hx hy) ⟨?_⟩;refine zr ⟨?_⟩
 exact ret_pure rfl (by first | rfl | (simp [nearB,Bool.and_assoc,Bool.or_assoc];done) | (congr 1;simp only [nearB];by_cases q1:x3=y3<;>by_cases q2:x3=0<;>by_cases q3:y3=0<;>simp [q1,q2,q3])) (.inl rfl)
theorem areCalls_con (l:List (Int×Int×Int×Int×Int)) (hl:l.length≤1048576):Con Try.prog 61 [.sl (l.map (fun t:Int×Int×Int×Int×Int=>V.agg [V.int .i64 t.1,V.int .i64 t.2.1,V.int .i64 t.2.2.1,V.int .i64 t.2.2.2.1,V.int .i64 t.2.2.2.2]))] [] (.bool (csB l)) []:=by
 refine v_con [.tmp 2] [] Try.func61 rfl rfl rfl (by simp [Try.ntmps61]) ?_
 intro Q0 n0 r0
 simp only [Try.ntmps61,envFrom,Nat.reduceAdd]
 have T:=Tys.mk (ai Ty.t3 (ai Ty.t4 (ai Ty.t50 Ty.t65)))
 have F:=Fc.mk True.intro
 refine yR [0] ⟨?_⟩;refine v_seq ?_;intros;refine yR [0,5,6,7] ⟨?_⟩;refine v_block ?_;intro Q4 n4 x4 e4 r4;refine v_loop (fun i=>⟨[(0,.sl (l.map (fun t:Int×Int×Int×Int×Int=>V.agg [V.int .i64 t.1,V.int .i64 t.2.1,V.int .i64 t.2.2.1,V.int .i64 t.2.2.2.1,V.int .i64 t.2.2.2.2]))),(5,.sl (l.map (fun t:Int×Int×Int×Int×Int=>V.agg [V.int .i64 t.1,V.int .i64 t.2.1,V.int .i64 t.2.2.1,V.int .i64 t.2.2.2.1,V.int .i64 t.2.2.2.2]))),(6,.int .i64 l.length),(7,.int .i64 (Nat.cast i))],[],false,34,0⟩) (fun i=>i≤l.length∧chainAt cOne cBefore l i=chainAt cOne cBefore l 0) (fun i=>l.length - i) 0 ?_ ?_ ?_
 ·refine weak_of [0,5,6,7] ?_
  simp only [keep_mk,keepE_nil,keepE_cons,look_cons,look_nil,Nat.reduceEqDiff,reduceIte]
  rfl
 ·exact ⟨Nat.zero_le _,rfl⟩
 ·rintro i hok5 Q5 n5 e5 r5
  obtain ⟨hi1,hR⟩:=hok5
  refine yR [0,5,6,7,8] ⟨?_⟩;refine v_seq ?_;intros;refine v_condS _ rfl ?_ ?_
  ·intro hc0
   have hlt:i < l.length:=by omega
   obtain ⟨⟨x0,x1,x2,x3,x4⟩,hx⟩:∃x:Int×Int×Int×Int×Int,l[i]? =some x:=⟨l[i]'(by omega),List.getElem?_eq_getElem (by omega)⟩
   rcases Nat.eq_zero_or_pos i with h0 | h0
   ·skip
    have hi0:¬((0:Int) < (i:Int)):=by omega
    have hst:chainAt cOne cBefore l i=(cOne (x0,x1,x2,x3,x4) && chainAt cOne cBefore l (i+1)):=by subst h0;exact chain_zero hx
    refine zn [0,5,6,7] ⟨?_⟩;refine v_seq ?_;intros;refine v_block ?_;intros
    have F:=Fc.mk (ai (gdm hx) (ai hi0 (ai @decide_false @Bool.and_false)))
    refine yR [0,3,4,5,6,7] ⟨?_⟩;refine v_seq ?_;intro Q12 n12 e12 r12;refine v_draw (by kernel_rfl) ?_;intro K13 q13 k13
    show aAny _ _ _ _ 18 (Array.replicate 18 false) _
    refine zdLoad q13 true 0 12 ?_;refine zoc 1 (isCall_con x0 x1 x2 x3 x4) ⟨?_⟩;refine zdUnOp q13 true 2 14 ?_;refine zdMove q13 true 3 15 ?_;refine zdgMove q13 true 4 16 ?_;refine zdgBinOp q13 true 5 17 ?_;refine zdgMove q13 true 6 18 ?_;refine zdgMove q13 true 7 19 ?_;refine zdgMove q13 true 8 20 ?_;refine zdgBinOpW q13 true 9 21 ?_;refine zdgIndexAddr q13 true 10 22 ?_;refine zdgFieldAddr q13 true 11 23 ?_;refine zdgLoad q13 true 12 24 ?_;refine zdgFieldAddr q13 true 13 25 ?_;refine zdgLoad q13 true 14 26 ?_;refine zdgBinOp q13 true 15 27 ?_;refine zdgPick q13 true 16 28 ?_;refine zdPick q13 true 17 29 ?_;refine aAny_done (by kernel_rfl) ?_;refine k13 _ ?_;refine n12 _ _ (weak_keep [0,5,6,7,29] _) ?_;refine zk ⟨?_⟩;refine v_condS _ rfl ?_ ?_
    ·intro hc1
     refine yR [2] ⟨?_⟩;refine zr ⟨?_⟩
     exact ret_pure rfl (by rw [csB,←hR,hst];clear hR hst;simp [cOne,cBefore] at *;intros;omega) (.inl rfl)
    ·intro hc1
     refine zn [0,5,6,7] ⟨?_⟩;refine yV ⟨?_⟩;refine n5 _ (i+1) ?_ ?_ ?_
     ·refine weak_bothS [0,5,6,7] [] ⟨?_⟩
      rfl
     ·exact ⟨by omega,by rw [←hR,hst];clear hR hst;have hone:cOne (x0,x1,x2,x3,x4)=true:=(by simp [cOne] at *;omega);first | (simp [hone];done) | (have hbt:cBefore (y0,y1,y2,y3,y4) (x0,x1,x2,x3,x4)=true:=(by simp [cBefore] at *;omega);simp [hone,hbt])⟩
     ·show _ < _;omega
   ·skip
    obtain ⟨⟨y0,y1,y2,y3,y4⟩,hy⟩:∃x:Int×Int×Int×Int×Int,l[i - 1]? =some x:=⟨l[i - 1]'(by omega),List.getElem?_eq_getElem (by omega)⟩
    have hi0:(0:Int) < i:=by omega
    have hk:((i:Int) - 1).toNat=i - 1:=by omega
    have hst:=chain_succ (ok:=cOne) (bf:=cBefore) h0 hy hx
    refine zn [0,5,6,7] ⟨?_⟩;refine v_seq ?_;intros;refine v_block ?_;intros
    have F:=Fc.mk (ai (gdm hx) (ai hi0 (ai hk (ai (gdm hy) (ai @decide_true @Bool.and_true)))))
    refine yR [0,3,4,5,6,7] ⟨?_⟩;refine v_seq ?_;intro Q20 n20 e20 r20;refine v_draw (by kernel_rfl) ?_;intro K21 q21 k21
    show aAny _ _ _ _ 18 (Array.replicate 18 false) _
    refine zdLoad q21 true 0 12 ?_;refine zoc 1 (isCall_con x0 x1 x2 x3 x4) ⟨?_⟩;refine zdUnOp q21 true 2 14 ?_;refine zdMove q21 true 3 15 ?_;refine zdgMove q21 true 4 16 ?_;refine zdgBinOp q21 true 5 17 ?_;refine zdgMove q21 true 6 18 ?_;refine zdgMove q21 true 7 19 ?_;refine zdgMove q21 true 8 20 ?_;refine zdgBinOpW q21 true 9 21 ?_;refine zdgIndexAddr q21 true 10 22 ?_;refine zdgFieldAddr q21 true 11 23 ?_;refine zdgLoad q21 true 12 24 ?_;refine zdgFieldAddr q21 true 13 25 ?_;refine zdgLoad q21 true 14 26 ?_;refine zdgBinOp q21 true 15 27 ?_;refine zdgPick q21 true 16 28 ?_;refine zdPick q21 true 17 29 ?_;refine aAny_done (by kernel_rfl) ?_;refine k21 _ ?_;refine n20 _ _ (weak_keep [0,5,6,7,29] _) ?_;refine zk ⟨?_⟩;refine v_condS _ rfl ?_ ?_
    ·intro hc1
     refine yR [2] ⟨?_⟩;refine zr ⟨?_⟩
     exact ret_pure rfl (by rw [csB,←hR,hst];clear hR hst;simp [cOne,cBefore] at *;intros;omega) (.inl rfl)
    ·intro hc1
     refine zn [0,5,6,7] ⟨?_⟩;refine yV ⟨?_⟩;refine n5 _ (i+1) ?_ ?_ ?_
     ·refine weak_bothS [0,5,6,7] [] ⟨?_⟩
      rfl
     ·exact ⟨by omega,by rw [←hR,hst];clear hR hst;have hone:cOne (x0,x1,x2,x3,x4)=true:=(by simp [cOne] at *;omega);first | (simp [hone];done) | (have hbt:cBefore (y0,y1,y2,y3,y4) (x0,x1,x2,x3,x4)=true:=(by simp [cBefore] at *;omega);simp [hone,hbt])⟩
     ·show _ < _;omega
  ·intro hc0
   refine zn [0] ⟨?_⟩;refine yR [2] ⟨?_⟩;refine zr ⟨?_⟩
   exact ret_pure rfl (by rw [csB,←hR,chain_end (by omega)];simp) (.inl rfl)
theorem clGood_con (l:List (Int×Int×Int×Int×Int)) (hl:l.length≤1048576):Con Try.prog 64 [.sl (l.map (fun t:Int×Int×Int×Int×Int=>V.agg [V.int .i64 t.1,V.int .i64 t.2.1,V.int .i64 t.2.2.1,V.int .i64 t.2.2.2.1,V.int .i64 t.2.2.2.2]))] [] (.bool (csB l)) []:=by
 refine v_con [.tmp 2] [] Try.func64 rfl rfl rfl (by simp [Try.ntmps64]) ?_
 intro Q0 n0 r0
 simp only [Try.ntmps64,envFrom,Nat.reduceAdd]
 have T:=Tys.mk (ai Ty.t3 (ai Ty.t4 (ai Ty.t50 Ty.t65)))
 have F:=Fc.mk True.intro
 refine yR [0] ⟨?_⟩;refine v_seq ?_;intros;refine yR [0,5,6,7] ⟨?_⟩;refine v_block ?_;intro Q4 n4 x4 e4 r4;refine v_loop (fun i=>⟨[(0,.sl (l.map (fun t:Int×Int×Int×Int×Int=>V.agg [V.int .i64 t.1,V.int .i64 t.2.1,V.int .i64 t.2.2.1,V.int .i64 t.2.2.2.1,V.int .i64 t.2.2.2.2]))),(5,.sl (l.map (fun t:Int×Int×Int×Int×Int=>V.agg [V.int .i64 t.1,V.int .i64 t.2.1,V.int .i64 t.2.2.1,V.int .i64 t.2.2.2.1,V.int .i64 t.2.2.2.2]))),(6,.int .i64 l.length),(7,.int .i64 (Nat.cast i))],[],false,34,0⟩) (fun i=>i≤l.length∧chainAt cOne cBefore l i=chainAt cOne cBefore l 0) (fun i=>l.length - i) 0 ?_ ?_ ?_
 ·refine weak_of [0,5,6,7] ?_
  simp only [keep_mk,keepE_nil,keepE_cons,look_cons,look_nil,Nat.reduceEqDiff,reduceIte]
  rfl
 ·exact ⟨Nat.zero_le _,rfl⟩
 ·rintro i hok5 Q5 n5 e5 r5
  obtain ⟨hi1,hR⟩:=hok5
  refine yR [0,5,6,7,8] ⟨?_⟩;refine v_seq ?_;intros;refine v_condS _ rfl ?_ ?_
  ·intro hc0
   have hlt:i < l.length:=by omega
   obtain ⟨⟨x0,x1,x2,x3,x4⟩,hx⟩:∃x:Int×Int×Int×Int×Int,l[i]? =some x:=⟨l[i]'(by omega),List.getElem?_eq_getElem (by omega)⟩
   rcases Nat.eq_zero_or_pos i with h0 | h0
   ·skip
    have hi0:¬((0:Int) < (i:Int)):=by omega
    have hst:chainAt cOne cBefore l i=(cOne (x0,x1,x2,x3,x4) && chainAt cOne cBefore l (i+1)):=by subst h0;exact chain_zero hx
    refine zn [0,5,6,7] ⟨?_⟩;refine v_seq ?_;intros;refine v_block ?_;intros
    have F:=Fc.mk (ai (gdm hx) (ai hi0 (ai @decide_false @Bool.and_false)))
    refine yR [0,3,4,5,6,7] ⟨?_⟩;refine v_seq ?_;intro Q12 n12 e12 r12;refine v_draw (by kernel_rfl) ?_;intro K13 q13 k13
    show aAny _ _ _ _ 18 (Array.replicate 18 false) _
    refine zdLoad q13 true 0 12 ?_;refine zoc 1 (clOne_con x0 x1 x2 x3 x4) ⟨?_⟩;refine zdUnOp q13 true 2 14 ?_;refine zdMove q13 true 3 15 ?_;refine zdgMove q13 true 4 16 ?_;refine zdgBinOp q13 true 5 17 ?_;refine zdgMove q13 true 6 18 ?_;refine zdgMove q13 true 7 19 ?_;refine zdgMove q13 true 8 20 ?_;refine zdgBinOpW q13 true 9 21 ?_;refine zdgIndexAddr q13 true 10 22 ?_;refine zdgFieldAddr q13 true 11 23 ?_;refine zdgLoad q13 true 12 24 ?_;refine zdgFieldAddr q13 true 13 25 ?_;refine zdgLoad q13 true 14 26 ?_;refine zdgBinOp q13 true 15 27 ?_;refine zdgPick q13 true 16 28 ?_;refine zdPick q13 true 17 29 ?_;refine aAny_done (by kernel_rfl) ?_;refine k13 _ ?_;refine n12 _ _ (weak_keep [0,5,6,7,29] _) ?_;refine zk ⟨?_⟩;refine v_condS _ rfl ?_ ?_
    ·intro hc1
     refine yR [2] ⟨?_⟩;refine zr ⟨?_⟩
     exact ret_pure rfl (by rw [csB,←hR,hst];clear hR hst;simp [cOne,cBefore] at *;intros;omega) (.inl rfl)
    ·intro hc1
     refine zn [0,5,6,7] ⟨?_⟩;refine yV ⟨?_⟩;refine n5 _ (i+1) ?_ ?_ ?_
     ·refine weak_bothS [0,5,6,7] [] ⟨?_⟩
      rfl
     ·exact ⟨by omega,by rw [←hR,hst];clear hR hst;have hone:cOne (x0,x1,x2,x3,x4)=true:=(by simp [cOne] at *;omega);first | (simp [hone];done) | (have hbt:cBefore (y0,y1,y2,y3,y4) (x0,x1,x2,x3,x4)=true:=(by simp [cBefore] at *;omega);simp [hone,hbt])⟩
     ·show _ < _;omega
   ·skip
    obtain ⟨⟨y0,y1,y2,y3,y4⟩,hy⟩:∃x:Int×Int×Int×Int×Int,l[i - 1]? =some x:=⟨l[i - 1]'(by omega),List.getElem?_eq_getElem (by omega)⟩
    have hi0:(0:Int) < i:=by omega
    have hk:((i:Int) - 1).toNat=i - 1:=by omega
    have hst:=chain_succ (ok:=cOne) (bf:=cBefore) h0 hy hx
    refine zn [0,5,6,7] ⟨?_⟩;refine v_seq ?_;intros;refine v_block ?_;intros
    have F:=Fc.mk (ai (gdm hx) (ai hi0 (ai hk (ai (gdm hy) (ai @decide_true @Bool.and_true)))))
    refine yR [0,3,4,5,6,7] ⟨?_⟩;refine v_seq ?_;intro Q20 n20 e20 r20;refine v_draw (by kernel_rfl) ?_;intro K21 q21 k21
    show aAny _ _ _ _ 18 (Array.replicate 18 false) _
    refine zdLoad q21 true 0 12 ?_;refine zoc 1 (clOne_con x0 x1 x2 x3 x4) ⟨?_⟩;refine zdUnOp q21 true 2 14 ?_;refine zdMove q21 true 3 15 ?_;refine zdgMove q21 true 4 16 ?_;refine zdgBinOp q21 true 5 17 ?_;refine zdgMove q21 true 6 18 ?_;refine zdgMove q21 true 7 19 ?_;refine zdgMove q21 true 8 20 ?_;refine zdgBinOpW q21 true 9 21 ?_;refine zdgIndexAddr q21 true 10 22 ?_;refine zdgFieldAddr q21 true 11 23 ?_;refine zdgLoad q21 true 12 24 ?_;refine zdgFieldAddr q21 true 13 25 ?_;refine zdgLoad q21 true 14 26 ?_;refine zdgBinOp q21 true 15 27 ?_;refine zdgPick q21 true 16 28 ?_;refine zdPick q21 true 17 29 ?_;refine aAny_done (by kernel_rfl) ?_;refine k21 _ ?_;refine n20 _ _ (weak_keep [0,5,6,7,29] _) ?_;refine zk ⟨?_⟩;refine v_condS _ rfl ?_ ?_
    ·intro hc1
     refine yR [2] ⟨?_⟩;refine zr ⟨?_⟩
     exact ret_pure rfl (by rw [csB,←hR,hst];clear hR hst;simp [cOne,cBefore] at *;intros;omega) (.inl rfl)
    ·intro hc1
     refine zn [0,5,6,7] ⟨?_⟩;refine yV ⟨?_⟩;refine n5 _ (i+1) ?_ ?_ ?_
     ·refine weak_bothS [0,5,6,7] [] ⟨?_⟩
      rfl
     ·exact ⟨by omega,by rw [←hR,hst];clear hR hst;have hone:cOne (x0,x1,x2,x3,x4)=true:=(by simp [cOne] at *;omega);first | (simp [hone];done) | (have hbt:cBefore (y0,y1,y2,y3,y4) (x0,x1,x2,x3,x4)=true:=(by simp [cBefore] at *;omega);simp [hone,hbt])⟩
     ·show _ < _;omega
  ·intro hc0
   refine zn [0] ⟨?_⟩;refine yR [2] ⟨?_⟩;refine zr ⟨?_⟩
   exact ret_pure rfl (by rw [csB,←hR,chain_end (by omega)];simp) (.inl rfl)
theorem windowFits_con (wn rd:Int):Con Try.prog 62 [.int .i64 wn,.int .i64 rd] [] (.bool (winB wn rd)) []:=by
 refine v_con [.tmp 4] [] Try.func62 rfl rfl rfl (by simp [Try.ntmps62]) ?_
 intro Q0 n0 r0
 simp only [Try.ntmps62,envFrom,Nat.reduceAdd]
 have T:=Tys.mk (ai Ty.t3 Ty.t4)
 have F:=Fc.mk True.intro
 refine yR [0,1] ⟨?_⟩;refine yRcg [4] (inside_con _ _ _) (inside_con _ _ _) ⟨?_⟩;refine zr ⟨?_⟩
 exact ret_pure rfl rfl (.inl rfl)
theorem clWindow_con (n:Int):Con Try.prog 103 [.int .i64 n] [] (.bool (decide (0≤n) && decide (n≤120))) []:=by
 refine v_con [.tmp 2] [] Try.func103 rfl rfl rfl (by simp [Try.ntmps103]) ?_
 intro Q0 n0 r0
 simp only [Try.ntmps103,envFrom,Nat.reduceAdd]
 have T:=Tys.mk (ai Ty.t3 Ty.t4)
 have F:=Fc.mk True.intro
 refine yR [0] ⟨?_⟩;refine yRc [2] (l1In_con _ _ _) ⟨?_⟩;refine zr ⟨?_⟩
 exact ret_pure rfl rfl (.inl rfl)
theorem clLimits_con (wn rd:Int):Con Try.prog 65 [.int .i64 wn,.int .i64 rd] [] (.bool (winB wn rd)) []:=by
 refine v_con [.tmp 4] [] Try.func65 rfl rfl rfl (by simp [Try.ntmps65]) ?_
 intro Q0 n0 r0
 simp only [Try.ntmps65,envFrom,Nat.reduceAdd]
 have T:=Tys.mk (ai Ty.t3 Ty.t4)
 have F:=Fc.mk True.intro
 refine yR [0,1] ⟨?_⟩;refine yRcg [4] (clWindow_con wn) (l1In_con _ _ _) ⟨?_⟩;refine zr ⟨?_⟩
 exact ret_pure rfl rfl (.inl rfl)
end Go.Proofs.Ytcdpeopiajgljaa
