/- What functions compute. No condition. -/
import Derived.Test.YtaefoaghpehbpaaGreatUz
import Derived.Test.YtaefoaghpehbpaaGreatUty
import Derived.Test.YtaefoaghpehbpaaGreatUmG
import Derived.Test.YtaefoaghpehbpaaGreatX1
import Derived.Test.YtaefoaghpehbpaaGreatX3
set_option linter.unusedSimpArgs false
set_option linter.unusedVariables false
set_option linter.defProp false
namespace Go.Proofs.YtaefoaghpehbpaaGreat
open Go Go.Vm
set_option maxHeartbeats 1000000 in
theorem eqAppliance_con (x0:ByteArray) (x1:Int) (x2:Int) (x3:Int) (x4:Int) (y0:ByteArray) (y1:Int) (y2:Int) (y3:Int) (y4:Int):Con Tryz.prog 145 [.agg [V.str x0,V.int .i64 x1,V.int .i64 x2,V.int .i64 x3,V.int .i64 x4],.agg [V.str y0,V.int .i64 y1,V.int .i64 y2,V.int .i64 y3,V.int .i64 y4]] [] (.bool (decide ((x0,x1,x2,x3,x4)=(y0,y1,y2,y3,y4)))) []:=by
 refine v_con [.tmp 4] [] Tryz.func145 rfl rfl rfl (by simp [Tryz.ntmps145]) ?_
 intro Q0 n0 r0
 simp only [Tryz.ntmps145,envFrom,Nat.reduceAdd]
 have T:=Tys.mk (And.intro Ty.t3 (And.intro Ty.t9 Ty.t96))
 have F:=Fc.mk True.intro
 refine yR [2,3] ⟨?_⟩;refine v_seq ?_;intros;refine yR [2,3,9] ⟨?_⟩;refine v_condS _ rfl ?_ ?_
 ·intro hc0
  refine yR [4] ⟨?_⟩;refine zr ⟨?_⟩
  exact ret_pure rfl (by rw [decide_eq_false (by intro h;simp only [Prod.mk.injEq] at h;exact hc0 h.1)]) (.inl rfl)
 ·intro hc0
  refine zn [2,3] ⟨?_⟩;refine v_seq ?_;intros;refine yR [2,3,14] ⟨?_⟩;refine v_condS _ rfl ?_ ?_
  ·intro hc1
   refine yR [4] ⟨?_⟩;refine zr ⟨?_⟩
   exact ret_pure rfl (by rw [decide_eq_false (by intro h;simp only [Prod.mk.injEq] at h;exact hc1 h.2.1)]) (.inl rfl)
  ·intro hc1
   refine zn [2,3] ⟨?_⟩;refine v_seq ?_;intros;refine yR [2,3,19] ⟨?_⟩;refine v_condS _ rfl ?_ ?_
   ·intro hc2
    refine yR [4] ⟨?_⟩;refine zr ⟨?_⟩
    exact ret_pure rfl (by rw [decide_eq_false (by intro h;simp only [Prod.mk.injEq] at h;exact hc2 h.2.2.1)]) (.inl rfl)
   ·intro hc2
    refine zn [2,3] ⟨?_⟩;refine v_seq ?_;intros;refine yR [2,3,24] ⟨?_⟩;refine v_condS _ rfl ?_ ?_
    ·intro hc3
     refine yR [4] ⟨?_⟩;refine zr ⟨?_⟩
     exact ret_pure rfl (by rw [decide_eq_false (by intro h;simp only [Prod.mk.injEq] at h;exact hc3 h.2.2.2.1)]) (.inl rfl)
    ·intro hc3
     refine zn [2,3] ⟨?_⟩;refine v_seq ?_;intros;refine yR [29] ⟨?_⟩;refine v_condS _ rfl ?_ ?_
     ·intro hc4
      refine yR [4] ⟨?_⟩;refine zr ⟨?_⟩
      exact ret_pure rfl (by rw [decide_eq_false (by intro h;simp only [Prod.mk.injEq] at h;exact hc4 h.2.2.2.2)]) (.inl rfl)
     ·intro hc4
      refine zn [] ⟨?_⟩;refine yR [4] ⟨?_⟩;refine zr ⟨?_⟩
      exact ret_pure rfl (by rw [decide_eq_true (by rw [hc0,hc1,hc2,hc3,hc4])]) (.inl rfl)
set_option maxHeartbeats 1000000 in
theorem eqApplianceS_con (a b:List (ByteArray×Int×Int×Int×Int)) (ha:a.length≤1048576):Con Tryz.prog 71 [.sl (a.map (fun t:ByteArray×Int×Int×Int×Int=>V.agg [V.str t.1,V.int .i64 t.2.1,V.int .i64 t.2.2.1,V.int .i64 t.2.2.2.1,V.int .i64 t.2.2.2.2])),.sl (b.map (fun t:ByteArray×Int×Int×Int×Int=>V.agg [V.str t.1,V.int .i64 t.2.1,V.int .i64 t.2.2.1,V.int .i64 t.2.2.2.1,V.int .i64 t.2.2.2.2]))] [] (.bool (decide (a=b))) []:=by
 refine v_con [.tmp 4] [] Tryz.func71 rfl rfl rfl (by simp [Tryz.ntmps71]) ?_
 intro Q0 n0 r0
 simp only [Tryz.ntmps71,envFrom,Nat.reduceAdd]
 have T:=Tys.mk (And.intro Ty.t3 (And.intro Ty.t4 (And.intro Ty.t9 (And.intro Ty.t32 Ty.t96))))
 have F:=Fc.mk True.intro
 refine yR [0,1] ⟨?_⟩;refine v_seq ?_;intros;refine yR [0,1,10] ⟨?_⟩;refine v_condS _ rfl ?_ ?_
 ·intro hc0
  refine yR [4] ⟨?_⟩;refine zr ⟨?_⟩
  exact ret_pure rfl (by rw [decide_eq_false (fun h=>by subst h;simp at hc0)]) (.inl rfl)
 ·intro hc0
  have hab:a.length=b.length:=by omega
  refine zn [0,1] ⟨?_⟩;refine v_seq ?_;intros;refine yR [0,1,5] ⟨?_⟩;refine v_block ?_;intros;refine v_loop (fun i=>⟨[(0,.sl (a.map (fun t:ByteArray×Int×Int×Int×Int=>V.agg [V.str t.1,V.int .i64 t.2.1,V.int .i64 t.2.2.1,V.int .i64 t.2.2.2.1,V.int .i64 t.2.2.2.2]))),(1,.sl (b.map (fun t:ByteArray×Int×Int×Int×Int=>V.agg [V.str t.1,V.int .i64 t.2.1,V.int .i64 t.2.2.1,V.int .i64 t.2.2.2.1,V.int .i64 t.2.2.2.2]))),(5,.int .i64 (Nat.cast i))],[],false,27,0⟩) (fun i=>i≤a.length∧((a=b)↔(a.drop i=b.drop i))) (fun i=>a.length - i) 0 ?_ ?_ ?_
  ·refine weak_of [0,1,5] ?_
   simp only [keep_mk,keepE_nil,keepE_cons,look_cons,look_nil,Nat.reduceEqDiff,reduceIte]
   rfl
  ·exact ⟨Nat.zero_le _,by simp⟩
  ·rintro i hok9 Q9 n9 e9 r9
   obtain ⟨hi1,hR⟩:=hok9
   refine v_seq ?_;intros;refine yR [0,1,5,14] ⟨?_⟩;refine v_condS _ rfl ?_ ?_
   ·intro hc1
    have hlt:i < a.length:=by omega
    obtain ⟨⟨x0,x1,x2,x3,x4⟩,hx⟩:∃x:ByteArray×Int×Int×Int×Int,a[i]? =some x:=⟨a[i]'(by omega),List.getElem?_eq_getElem (by omega)⟩
    obtain ⟨⟨y0,y1,y2,y3,y4⟩,hy⟩:∃x:ByteArray×Int×Int×Int×Int,b[i]? =some x:=⟨b[i]'(by omega),List.getElem?_eq_getElem (by omega)⟩
    have hstep:=eq_drop hab hx hy
    refine zn [0,1,5] ⟨?_⟩;refine v_seq ?_;intros;refine v_block ?_;intros;refine v_seq ?_;intro Q15 n15 e15 r15;refine v_draw (by kernel_rfl) ?_;intro K16 q16 k16
    show aAny _ _ _ _ 10 (Array.replicate 10 false) _
    have F:=Fc.mk (And.intro (fun f=>getD_map (f:=f) hx) (fun f=>getD_map (f:=f) hy))
    refine zdMove q16 true 0 17 ?_;refine zdMove q16 true 1 18 ?_;refine zdIndexAddr q16 true 2 19 ?_;refine zdLoad q16 true 3 20 ?_;refine zdMove q16 true 4 21 ?_;refine zdMove q16 true 5 22 ?_;refine zdIndexAddr q16 true 6 23 ?_;refine zdLoad q16 true 7 24 ?_;refine zoc 8 (eqAppliance_con x0 x1 x2 x3 x4 y0 y1 y2 y3 y4) ⟨?_⟩;refine zdUnOp q16 true 9 26 ?_;refine aAny_done (by kernel_rfl) ?_;refine k16 _ ?_;refine n15 _ _ (weak_keep [0,1,5,26] _) ?_;refine zk ⟨?_⟩;refine v_condS _ rfl ?_ ?_
    ·intro hc2
     refine yR [4] ⟨?_⟩;refine zr ⟨?_⟩
     exact ret_pure rfl (by rw [decide_eq_false (fun h=>hc2 (hstep.1 (hR.1 h)).1)]) (.inl rfl)
    ·intro hc2
     refine zn [0,1,5] ⟨?_⟩;refine yV ⟨?_⟩;refine n9 _ (i+1) ?_ ?_ ?_
     ·refine weak_of [0,1,5] ?_
      simp only [keep_mk,keepE_nil,keepE_cons,look_cons,look_nil,Nat.reduceEqDiff,reduceIte]
      rfl
     ·exact ⟨by omega,hR.trans (hstep.trans ⟨fun h=>h.2,fun h=>⟨hc2,h⟩⟩)⟩
     ·show _ < _;omega
   ·intro hc1
    refine zn [] ⟨?_⟩;refine yR [4] ⟨?_⟩;refine zr ⟨?_⟩
    exact ret_pure rfl (by rw [decide_eq_true (hR.2 (by rw [List.drop_of_length_le (by omega),List.drop_of_length_le (by omega)]))]) (.inl rfl)
def hasB (n x:Int):Bool:=decide (0≤x) && decide (x≤IntKind.i64.wrap (n - 1))
def strOK (n:Int) (x:(Int×Int×Int)):Bool:=hasB n x.1 && hasB n x.2.1 && decide (x.1 < x.2.1) && (decide (1≤x.2.2) && decide (x.2.2≤3600))
def toStr (n:Int) (x:(Int×Int×Int)):Bool:=hasB n x.1 && hasB n x.2.1 && !decide (x.1=x.2.1) && (decide (1≤x.2.2) && decide (x.2.2≤3600))
def strBf (x y:(Int×Int×Int)):Bool:=decide (x.1 < y.1) || (decide (x.1=y.1) && decide (x.2.1 < y.2.1))
def townH (n:Int) (ss:List (Int×Int×Int)):Bool:=(decide (1≤n) && decide (n≤14)) && !decide (40 < (ss.length:Int))
def townB (n:Int) (ss:List (Int×Int×Int)):Bool:=townH n ss && chainAt (strOK n) strBf ss 0
def cmpSt (x y:(Int×Int×Int)):Int:=orL [cmpI x.1 y.1,cmpI x.2.1 y.2.1]
theorem cmpSt_bf (x y:(Int×Int×Int)):decide (0≤cmpSt x y)= !strBf x y:=by
  obtain ⟨x0,x1,x2⟩:=x
  obtain ⟨y0,y1,y2⟩:=y
  simp only [cmpSt,orL,cmpI,strBf]
  by_cases h1:x0 < y0
  · simp [h1]
  · by_cases h2:y0 < x0
    · have:¬x0=y0:=by omega
      simp [h1,h2,this]
    · have:x0=y0:=by omega
      subst this
      by_cases h3:x1 < y1
      · simp [h3]
      · by_cases h4:y1 < x1
        · simp [h3,h4]
        · simp [h3,h4]
theorem toStr_ok (n:Int) (x:(Int×Int×Int)):(toStr n x && !decide (x.2.1 < x.1))=strOK n x:=by
  obtain ⟨x0,x1,x2⟩:=x
  simp only [toStr,strOK]
  by_cases h:x0 < x1
  · have h1:¬x0=x1:=by omega
    have h2:¬x1 < x0:=by omega
    simp [h,h1,h2]
  · by_cases h1:x0=x1
    · simp [h1]
    · have h2:x1 < x0:=by omega
      simp [h,h2]
theorem toStr_or (n:Int) (x:(Int×Int×Int)):(!toStr n x || decide (x.2.1 < x.1))= !strOK n x:=by
  rw [←toStr_ok]
  cases toStr n x<;>cases decide (x.2.1 < x.1)<;>rfl
set_option maxHeartbeats 1000000 in
theorem tHas_con (n:Int) (ss:List (Int×Int×Int)) (x:Int):Con Tryz.prog 95 [.pv [.agg [.int .i64 n,.sl (ss.map (fun t:Int×Int×Int=>V.agg [V.int .i64 t.1,V.int .i64 t.2.1,V.int .i64 t.2.2]))]] 0 0,.int .i64 x] [] (.bool (hasB n x)) []:=by
 refine v_con [.tmp 4] [] Tryz.func95 rfl rfl rfl (by simp [Tryz.ntmps95]) ?_
 intro Q0 n0 r0
 simp only [Tryz.ntmps95,envFrom,Nat.reduceAdd]
 have T:=Tys.mk (And.intro Ty.t3 (And.intro Ty.t4 (And.intro Ty.t39 (And.intro Ty.t41 Ty.t169))))
 have F:=Fc.mk True.intro
 refine yR [0,1] ⟨?_⟩;refine yRc [4] (inside_con _ _ _) ⟨?_⟩;refine zr ⟨?_⟩
 exact ret_pure rfl rfl (.inl rfl)
set_option maxHeartbeats 1000000 in
theorem tFits_con (n:Int) (ss:List (Int×Int×Int)) (x0:Int) (x1:Int) (x2:Int):Con Tryz.prog 130 [.pv [.agg [.int .i64 n,.sl (ss.map (fun t:Int×Int×Int=>V.agg [V.int .i64 t.1,V.int .i64 t.2.1,V.int .i64 t.2.2]))]] 0 0,.agg [V.int .i64 x0,V.int .i64 x1,V.int .i64 x2]] [] (.bool (strOK n (x0,x1,x2))) []:=by
 refine v_con [.tmp 4] [] Tryz.func130 rfl rfl rfl (by simp [Tryz.ntmps130]) ?_
 intro Q0 n0 r0
 simp only [Tryz.ntmps130,envFrom,Nat.reduceAdd]
 have T:=Tys.mk (And.intro Ty.t3 (And.intro Ty.t4 (And.intro Ty.t39 (And.intro Ty.t41 (And.intro Ty.t108 Ty.t169)))))
 have F:=Fc.mk True.intro
 refine yR [0,3] ⟨?_⟩;refine yRcgg [4] (tHas_con n ss x0) (tHas_con n ss x1) (inside_con _ _ _) ⟨?_⟩;refine zr ⟨?_⟩
 exact ret_pure rfl (by simp [strOK]) (.inl rfl)
set_option maxHeartbeats 1000000 in
theorem cmpStreets_con (x0:Int) (x1:Int) (x2:Int) (y0:Int) (y1:Int) (y2:Int):Con Tryz.prog 131 [.agg [V.int .i64 x0,V.int .i64 x1,V.int .i64 x2],.agg [V.int .i64 y0,V.int .i64 y1,V.int .i64 y2]] [] (.int .i64 (cmpSt (x0,x1,x2) (y0,y1,y2))) []:=by
 refine v_con [.tmp 4] [] Tryz.func131 rfl rfl rfl (by simp [Tryz.ntmps131]) ?_
 intro Q0 n0 r0
 simp only [Tryz.ntmps131,envFrom,Nat.reduceAdd]
 have T:=Tys.mk (And.intro Ty.t3 (And.intro Ty.t75 Ty.t169))
 have F:=Fc.mk True.intro
 refine yR [2,3] ⟨?_⟩;refine v_seq ?_;intro Q2 n2 e2 r2;refine v_draw (by kernel_rfl) ?_;intro K3 q3 k3
 show aAny _ _ _ _ 13 (Array.replicate 13 false) _
 refine zdFieldAddr q3 true 0 5 ?_;refine zdLoad q3 true 1 6 ?_;refine zdFieldAddr q3 true 2 7 ?_;refine zdLoad q3 true 3 8 ?_;refine zdFieldAddr q3 true 5 10 ?_;refine zdLoad q3 true 6 11 ?_;refine zdFieldAddr q3 true 7 12 ?_;refine zdLoad q3 true 8 13 ?_;refine zoc 4 (cmpInt_con x0 y0) ⟨?_⟩;refine zoc 9 (cmpInt_con x1 y1) ⟨?_⟩;refine zoBuildSlice 10 ⟨?_⟩;refine zoc 11 (cmpOr_con [cmpI x0 y0,cmpI x1 y1] (by simp)) ⟨?_⟩;refine zoAssign 12 ⟨?_⟩;refine aAny_done (by kernel_rfl) ?_;refine k3 _ ?_;refine n2 _ _ (weak_keep [4] _) ?_;refine zq3 ⟨?_⟩
 exact ret_pure rfl rfl (.inl rfl)
set_option maxHeartbeats 1000000 in
theorem toStreetB_con (x0:Int) (x1:Int) (x2:Int) (n:Int):Con Tryz.prog 217 [.agg [V.int .i64 x0,V.int .i64 x1,V.int .i64 x2],.int .i64 n] [] (.bool (toStr n (x0,x1,x2))) []:=by
 refine v_con [.tmp 4] [] Tryz.func217 rfl rfl rfl (by simp [Tryz.ntmps217]) ?_
 intro Q0 n0 r0
 simp only [Tryz.ntmps217,envFrom,Nat.reduceAdd]
 have T:=Tys.mk (And.intro Ty.t3 (And.intro Ty.t4 Ty.t169))
 have F:=Fc.mk True.intro
 refine yR [1,2] ⟨?_⟩;refine yRcgg [4] (l1In_con _ _ _) (l1In_con _ _ _) (l1In_con _ _ _) ⟨?_⟩;refine zr ⟨?_⟩
 exact ret_pure rfl (by simp [toStr,hasB]) (.inl rfl)
set_option maxHeartbeats 1000000 in
theorem toBefore_con (x0:Int) (x1:Int) (x2:Int) (y0:Int) (y1:Int) (y2:Int):Con Tryz.prog 218 [.agg [V.int .i64 x0,V.int .i64 x1,V.int .i64 x2],.agg [V.int .i64 y0,V.int .i64 y1,V.int .i64 y2]] [] (.bool (strBf (x0,x1,x2) (y0,y1,y2))) []:=by
 refine v_con [.tmp 4] [] Tryz.func218 rfl rfl rfl (by simp [Tryz.ntmps218]) ?_
 intro Q0 n0 r0
 simp only [Tryz.ntmps218,envFrom,Nat.reduceAdd]
 have T:=Tys.mk (And.intro Ty.t3 Ty.t169)
 have F:=Fc.mk True.intro
 refine yR [2,3] ⟨?_⟩;refine yR [4] ⟨?_⟩;refine zr ⟨?_⟩
 exact ret_pure rfl (by simp [strBf]) (.inl rfl)
set_option maxRecDepth 8000 in
set_option maxHeartbeats 1000000 in
theorem isTown_con (n:Int) (ss:List (Int×Int×Int)) (hs:ss.length≤1048576):Con Tryz.prog 64 [.pv [.agg [.int .i64 n,.sl (ss.map (fun t:Int×Int×Int=>V.agg [V.int .i64 t.1,V.int .i64 t.2.1,V.int .i64 t.2.2]))]] 0 0] [] (.bool (townB n ss)) []:=by
 refine v_con [.tmp 2] [] Tryz.func64 rfl rfl rfl (by simp [Tryz.ntmps64]) ?_
 intro Q0 n0 r0
 simp only [Tryz.ntmps64,envFrom,Nat.reduceAdd]
 have T:=Tys.mk (And.intro Ty.t3 (And.intro Ty.t4 (And.intro Ty.t39 (And.intro Ty.t41 (And.intro Ty.t108 Ty.t169)))))
 have F:=Fc.mk True.intro
 refine yR [0] ⟨?_⟩;refine v_seq ?_;intros;refine yRc [0,18] (inside_con _ _ _) ⟨?_⟩;refine v_condS _ rfl ?_ ?_
 ·intro hc0
  have hh:townH n ss=false:=by cases hq:townH n ss with | false=>rfl | true=>(exfalso;simp [townH] at hq;(try simp at hc0);omega)
  refine yR [2] ⟨?_⟩;refine zr ⟨?_⟩
  exact ret_pure rfl (by rw [townB,hh];rfl) (.inl rfl)
 ·intro hc0
  have hh:townH n ss=true:=by simp only [townH,Bool.and_eq_true,Bool.not_eq_true',decide_eq_true_eq,decide_eq_false_iff_not];(try simp at hc0);omega
  refine zn [0] ⟨?_⟩;refine v_seq ?_;intros;refine yR [0,22,23,24] ⟨?_⟩;refine v_block ?_;intros;refine v_loop (fun i=>⟨[(0,.pv [.agg [.int .i64 n,.sl (ss.map (fun t:Int×Int×Int=>V.agg [V.int .i64 t.1,V.int .i64 t.2.1,V.int .i64 t.2.2]))]] 0 0),(22,.sl (ss.map (fun t:Int×Int×Int=>V.agg [V.int .i64 t.1,V.int .i64 t.2.1,V.int .i64 t.2.2]))),(23,.int .i64 ss.length),(24,.int .i64 (Nat.cast i))],[],false,51,0⟩) (fun i=>i≤ss.length∧chainAt (strOK n) strBf ss i=chainAt (strOK n) strBf ss 0) (fun i=>ss.length - i) 0 ?_ ?_ ?_
  ·refine weak_bothS [0,22,23,24] [] ⟨?_⟩
   rfl
  ·exact ⟨Nat.zero_le _,rfl⟩
  ·rintro i hok9 Q9 n9 e9 r9
   obtain ⟨hi1,hR⟩:=hok9
   refine yR [0,22,23,24,25] ⟨?_⟩;refine v_seq ?_;intros;refine v_condS _ rfl ?_ ?_
   ·intro hc1
    have hlt:i < ss.length:=by omega
    obtain ⟨⟨x0,x1,x2⟩,hx⟩:∃x:Int×Int×Int,ss[i]? =some x:=⟨ss[i]'(by omega),List.getElem?_eq_getElem (by omega)⟩
    rcases Nat.eq_zero_or_pos i with h0 | h0
    ·skip
     have y0:Int:=0
     have y1:Int:=0
     have y2:Int:=0
     have hi0:¬((0:Int) < (i:Int)):=by omega
     have hst:chainAt (strOK n) strBf ss i=(strOK n (x0,x1,x2) && chainAt (strOK n) strBf ss (i+1)):=by subst h0;exact chain_zero hx
     have hts:=toStr_or n (x0,x1,x2)
     simp only [] at hts
     refine zn [0,22,23,24] ⟨?_⟩;refine v_seq ?_;intros;refine v_block ?_;intros
     have F:=Fc.mk (And.intro (fun f=>getD_map (f:=f) hx) (And.intro hi0 (And.intro @decide_false (And.intro @Bool.and_false hts))))
     refine yR [0,3,4,22,23,24] ⟨?_⟩;refine v_seq ?_;intro Q16 n16 e16 r16;refine v_draw (by kernel_rfl) ?_;intro K17 q17 k17
     show aAny _ _ _ _ 21 (Array.replicate 21 false) _
     refine zdMove q17 true 0 29 ?_;refine zdLoad q17 true 1 30 ?_;refine zoc 2 (tFits_con n ss x0 x1 x2) ⟨?_⟩;refine zdUnOp q17 true 3 32 ?_;refine zdMove q17 true 4 33 ?_;refine zdgMove q17 true 5 34 ?_;refine zdgBinOp q17 true 6 35 ?_;refine zdgMove q17 true 7 36 ?_;refine zdgMove q17 true 8 37 ?_;refine zdgNilCheck q17 true 9 38 ?_;refine zdgFieldAddr q17 true 10 39 ?_;refine zdgLoad q17 true 11 40 ?_;refine zdgMove q17 true 12 41 ?_;refine zdgBinOpW q17 true 13 42 ?_;refine zdgIndexAddr q17 true 14 43 ?_;refine zdgLoad q17 true 15 44 ?_;refine zdgLoad q17 true 16 45 ?_
     first
     |refine zogc 17 (cmpStreets_con y0 y1 y2 x0 x1 x2) ⟨?_⟩
     |(refine aAny_pass 17 46 7 true rfl rfl (show 46 < 51 by decide) (by kernel_rfl) rfl ?_ ?_;(focus first | rfl | (simp only [zV,guardV,Nat.reduceEqDiff,reduceIte];done));simp only [zW,set_some,Nat.reduceEqDiff,reduceIte])
     refine zdgBinOp q17 true 18 47 ?_;refine zdgPick q17 true 19 48 ?_;refine zdPick q17 true 20 49 ?_;refine aAny_done (by kernel_rfl) ?_;refine k17 _ ?_;refine n16 _ _ (weak_keep [0,22,23,24,49] _) ?_;refine zk ⟨?_⟩;refine v_condS _ rfl ?_ ?_
     ·intro hc2
      refine yR [2] ⟨?_⟩;refine zr ⟨?_⟩
      exact ret_pure rfl (by rw [townB,hh,←hR,hst];(try simp at hc2);first | (simp [hc2];done) | (rcases hc2 with h | h<;>simp [h];done) | (simp_all;done)) (.inl rfl)
     ·intro hc2
      refine zn [0,22,23,24] ⟨?_⟩;refine yV ⟨?_⟩;refine n9 _ (i+1) ?_ ?_ ?_
      ·refine weak_bothS [0,22,23,24] [] ⟨?_⟩
       rfl
      ·exact ⟨by omega,by rw [←hR,hst];(try simp at hc2);first | (simp [hc2];done) | (simp_all;done)⟩
      ·show _ < _;omega
    ·skip
     obtain ⟨⟨y0,y1,y2⟩,hy⟩:∃x:Int×Int×Int,ss[i - 1]? =some x:=⟨ss[i - 1]'(by omega),List.getElem?_eq_getElem (by omega)⟩
     have hi0:(0:Int) < i:=by omega
     have hk:((i:Int) - 1).toNat=i - 1:=by omega
     have hst:=chain_succ (ok:=strOK n) (bf:=strBf) h0 hy hx
     have hcb:=cmpSt_bf (y0,y1,y2) (x0,x1,x2)
     have hts:=toStr_or n (x0,x1,x2)
     simp only [] at hts
     refine zn [0,22,23,24] ⟨?_⟩;refine v_seq ?_;intros;refine v_block ?_;intros
     have F:=Fc.mk (And.intro (fun f=>getD_map (f:=f) hx) (And.intro hi0 (And.intro hk (And.intro (fun f=>getD_map (f:=f) hy) (And.intro @decide_true (And.intro @Bool.and_true (And.intro hcb hts)))))))
     refine yR [0,3,4,22,23,24] ⟨?_⟩;refine v_seq ?_;intro Q24 n24 e24 r24;refine v_draw (by kernel_rfl) ?_;intro K25 q25 k25
     show aAny _ _ _ _ 21 (Array.replicate 21 false) _
     refine zdMove q25 true 0 29 ?_;refine zdLoad q25 true 1 30 ?_;refine zoc 2 (tFits_con n ss x0 x1 x2) ⟨?_⟩;refine zdUnOp q25 true 3 32 ?_;refine zdMove q25 true 4 33 ?_;refine zdgMove q25 true 5 34 ?_;refine zdgBinOp q25 true 6 35 ?_;refine zdgMove q25 true 7 36 ?_;refine zdgMove q25 true 8 37 ?_;refine zdgNilCheck q25 true 9 38 ?_;refine zdgFieldAddr q25 true 10 39 ?_;refine zdgLoad q25 true 11 40 ?_;refine zdgMove q25 true 12 41 ?_;refine zdgBinOpW q25 true 13 42 ?_;refine zdgIndexAddr q25 true 14 43 ?_;refine zdgLoad q25 true 15 44 ?_;refine zdgLoad q25 true 16 45 ?_
     first
     |refine zogc 17 (cmpStreets_con y0 y1 y2 x0 x1 x2) ⟨?_⟩
     |(refine aAny_pass 17 46 7 true rfl rfl (show 46 < 51 by decide) (by kernel_rfl) rfl ?_ ?_;(focus first | rfl | (simp only [zV,guardV,Nat.reduceEqDiff,reduceIte];done));simp only [zW,set_some,Nat.reduceEqDiff,reduceIte])
     refine zdgBinOp q25 true 18 47 ?_;refine zdgPick q25 true 19 48 ?_;refine zdPick q25 true 20 49 ?_;refine aAny_done (by kernel_rfl) ?_;refine k25 _ ?_;refine n24 _ _ (weak_keep [0,22,23,24,49] _) ?_;refine zk ⟨?_⟩;refine v_condS _ rfl ?_ ?_
     ·intro hc2
      refine yR [2] ⟨?_⟩;refine zr ⟨?_⟩
      exact ret_pure rfl (by rw [townB,hh,←hR,hst];(try simp at hc2);first | (simp [hc2];done) | (rcases hc2 with h | h<;>simp [h];done) | (simp_all;done)) (.inl rfl)
     ·intro hc2
      refine zn [0,22,23,24] ⟨?_⟩;refine yV ⟨?_⟩;refine n9 _ (i+1) ?_ ?_ ?_
      ·refine weak_bothS [0,22,23,24] [] ⟨?_⟩
       rfl
      ·exact ⟨by omega,by rw [←hR,hst];(try simp at hc2);first | (simp [hc2];done) | (simp_all;done)⟩
      ·show _ < _;omega
   ·intro hc1
    refine zn [] ⟨?_⟩;refine yR [2] ⟨?_⟩;refine zr ⟨?_⟩
    exact ret_pure rfl (by rw [townB,hh,←hR,chain_end (by omega)];rfl) (.inl rfl)
set_option maxRecDepth 8000 in
set_option maxHeartbeats 1000000 in
theorem toGood_con (n:Int) (ss:List (Int×Int×Int)) (hs:ss.length≤1048576):Con Tryz.prog 163 [.agg [.int .i64 n,.sl (ss.map (fun t:Int×Int×Int=>V.agg [V.int .i64 t.1,V.int .i64 t.2.1,V.int .i64 t.2.2]))]] [] (.bool (townB n ss)) []:=by
 refine v_con [.tmp 2] [] Tryz.func163 rfl rfl rfl (by simp [Tryz.ntmps163]) ?_
 intro Q0 n0 r0
 simp only [Tryz.ntmps163,envFrom,Nat.reduceAdd]
 have T:=Tys.mk (And.intro Ty.t3 (And.intro Ty.t4 (And.intro Ty.t39 (And.intro Ty.t41 Ty.t169))))
 have F:=Fc.mk True.intro
 refine yR [1] ⟨?_⟩;refine v_seq ?_;intros;refine yRc [1,14] (l1In_con _ _ _) ⟨?_⟩;refine v_condS _ rfl ?_ ?_
 ·intro hc0
  have hh:townH n ss=false:=by cases hq:townH n ss with | false=>rfl | true=>(exfalso;simp [townH] at hq;(try simp at hc0);omega)
  refine yR [2] ⟨?_⟩;refine zr ⟨?_⟩
  exact ret_pure rfl (by rw [townB,hh];rfl) (.inl rfl)
 ·intro hc0
  have hh:townH n ss=true:=by simp only [townH,Bool.and_eq_true,Bool.not_eq_true',decide_eq_true_eq,decide_eq_false_iff_not];(try simp at hc0);omega
  refine zn [1] ⟨?_⟩;refine v_seq ?_;intros;refine yR [1,16,17,18] ⟨?_⟩;refine v_block ?_;intros;refine v_loop (fun i=>⟨[(1,.ptr 0 0 0),(16,.sl (ss.map (fun t:Int×Int×Int=>V.agg [V.int .i64 t.1,V.int .i64 t.2.1,V.int .i64 t.2.2]))),(17,.int .i64 ss.length),(18,.int .i64 (Nat.cast i))],[.box (.agg [.int .i64 n,.sl (ss.map (fun t:Int×Int×Int=>V.agg [V.int .i64 t.1,V.int .i64 t.2.1,V.int .i64 t.2.2]))]) .shal],false,51,0⟩) (fun i=>i≤ss.length∧chainAt (strOK n) strBf ss i=chainAt (strOK n) strBf ss 0) (fun i=>ss.length - i) 0 ?_ ?_ ?_
  ·refine weak_bothS [1,16,17,18] [0] ⟨?_⟩
   rfl
  ·exact ⟨Nat.zero_le _,rfl⟩
  ·rintro i hok9 Q9 n9 e9 r9
   obtain ⟨hi1,hR⟩:=hok9
   refine yR [1,16,17,18,19] ⟨?_⟩;refine v_seq ?_;intros;refine v_condS _ rfl ?_ ?_
   ·intro hc1
    have hlt:i < ss.length:=by omega
    obtain ⟨⟨x0,x1,x2⟩,hx⟩:∃x:Int×Int×Int,ss[i]? =some x:=⟨ss[i]'(by omega),List.getElem?_eq_getElem (by omega)⟩
    rcases Nat.eq_zero_or_pos i with h0 | h0
    ·skip
     have y0:Int:=0
     have y1:Int:=0
     have y2:Int:=0
     have hi0:¬((0:Int) < (i:Int)):=by omega
     have hst:chainAt (strOK n) strBf ss i=(strOK n (x0,x1,x2) && chainAt (strOK n) strBf ss (i+1)):=by subst h0;exact chain_zero hx
     have hts:=toStr_or n (x0,x1,x2)
     simp only [] at hts
     refine zn [1,16,17,18] ⟨?_⟩;refine v_seq ?_;intros;refine v_block ?_;intros
     have F:=Fc.mk (And.intro (fun f=>getD_map (f:=f) hx) (And.intro hi0 (And.intro @decide_false (And.intro @Bool.and_false hts))))
     refine yR [1,3,4,16,17,18] ⟨?_⟩;refine v_seq ?_;intro Q16 n16 e16 r16;refine v_draw (by kernel_rfl) ?_;intro K17 q17 k17
     show aAny _ _ _ _ 27 (Array.replicate 27 false) _
     refine zdLoad q17 true 0 23 ?_;refine zdFieldAddr q17 true 1 24 ?_;refine zdLoad q17 true 2 25 ?_;refine zoc 3 (toStreetB_con x0 x1 x2 n) ⟨?_⟩;refine zdUnOp q17 true 4 27 ?_;refine zdMove q17 true 5 28 ?_;refine zdgFieldAddr q17 true 6 29 ?_;refine zdgLoad q17 true 7 30 ?_;refine zdgFieldAddr q17 true 8 31 ?_;refine zdgLoad q17 true 9 32 ?_;refine zdgBinOp q17 true 10 33 ?_;refine zdPick q17 true 11 34 ?_;refine zdMove q17 true 12 35 ?_;refine zdgMove q17 true 13 36 ?_;refine zdgBinOp q17 true 14 37 ?_;refine zdgMove q17 true 15 38 ?_;refine zdgFieldAddr q17 true 16 39 ?_;refine zdgLoad q17 true 17 40 ?_;refine zdgMove q17 true 18 41 ?_;refine zdgBinOpW q17 true 19 42 ?_;refine zdgIndexAddr q17 true 20 43 ?_;refine zdgLoad q17 true 21 44 ?_;refine zdgLoad q17 true 22 45 ?_
     first
     |refine zogc 23 (toBefore_con y0 y1 y2 x0 x1 x2) ⟨?_⟩
     |(refine aAny_pass 23 46 15 true rfl rfl (show 46 < 51 by decide) (by kernel_rfl) rfl ?_ ?_;(focus first | rfl | (simp only [zV,guardV,Nat.reduceEqDiff,reduceIte];done));simp only [zW,set_some,Nat.reduceEqDiff,reduceIte])
     refine zdgUnOp q17 true 24 47 ?_;refine zdgPick q17 true 25 48 ?_;refine zdPick q17 true 26 49 ?_;refine aAny_done (by kernel_rfl) ?_;refine k17 _ ?_;refine n16 _ _ (weak_keep [1,16,17,18,49] _) ?_;refine zk ⟨?_⟩;refine v_condS _ rfl ?_ ?_
     ·intro hc2
      refine yR [2] ⟨?_⟩;refine zr ⟨?_⟩
      exact ret_pure rfl (by rw [townB,hh,←hR,hst];(try simp at hc2);first | (simp [hc2];done) | (rcases hc2 with h | h<;>simp [h];done) | (simp_all;done)) (.inl rfl)
     ·intro hc2
      refine zn [1,16,17,18] ⟨?_⟩;refine yV ⟨?_⟩;refine n9 _ (i+1) ?_ ?_ ?_
      ·refine weak_bothS [1,16,17,18] [0] ⟨?_⟩
       rfl
      ·exact ⟨by omega,by rw [←hR,hst];(try simp at hc2);first | (simp [hc2];done) | (simp_all;done)⟩
      ·show _ < _;omega
    ·skip
     obtain ⟨⟨y0,y1,y2⟩,hy⟩:∃x:Int×Int×Int,ss[i - 1]? =some x:=⟨ss[i - 1]'(by omega),List.getElem?_eq_getElem (by omega)⟩
     have hi0:(0:Int) < i:=by omega
     have hk:((i:Int) - 1).toNat=i - 1:=by omega
     have hst:=chain_succ (ok:=strOK n) (bf:=strBf) h0 hy hx
     have hcb:=cmpSt_bf (y0,y1,y2) (x0,x1,x2)
     have hts:=toStr_or n (x0,x1,x2)
     simp only [] at hts
     refine zn [1,16,17,18] ⟨?_⟩;refine v_seq ?_;intros;refine v_block ?_;intros
     have F:=Fc.mk (And.intro (fun f=>getD_map (f:=f) hx) (And.intro hi0 (And.intro hk (And.intro (fun f=>getD_map (f:=f) hy) (And.intro @decide_true (And.intro @Bool.and_true (And.intro hcb hts)))))))
     refine yR [1,3,4,16,17,18] ⟨?_⟩;refine v_seq ?_;intro Q24 n24 e24 r24;refine v_draw (by kernel_rfl) ?_;intro K25 q25 k25
     show aAny _ _ _ _ 27 (Array.replicate 27 false) _
     refine zdLoad q25 true 0 23 ?_;refine zdFieldAddr q25 true 1 24 ?_;refine zdLoad q25 true 2 25 ?_;refine zoc 3 (toStreetB_con x0 x1 x2 n) ⟨?_⟩;refine zdUnOp q25 true 4 27 ?_;refine zdMove q25 true 5 28 ?_;refine zdgFieldAddr q25 true 6 29 ?_;refine zdgLoad q25 true 7 30 ?_;refine zdgFieldAddr q25 true 8 31 ?_;refine zdgLoad q25 true 9 32 ?_;refine zdgBinOp q25 true 10 33 ?_;refine zdPick q25 true 11 34 ?_;refine zdMove q25 true 12 35 ?_;refine zdgMove q25 true 13 36 ?_;refine zdgBinOp q25 true 14 37 ?_;refine zdgMove q25 true 15 38 ?_;refine zdgFieldAddr q25 true 16 39 ?_;refine zdgLoad q25 true 17 40 ?_;refine zdgMove q25 true 18 41 ?_;refine zdgBinOpW q25 true 19 42 ?_;refine zdgIndexAddr q25 true 20 43 ?_;refine zdgLoad q25 true 21 44 ?_;refine zdgLoad q25 true 22 45 ?_
     first
     |refine zogc 23 (toBefore_con y0 y1 y2 x0 x1 x2) ⟨?_⟩
     |(refine aAny_pass 23 46 15 true rfl rfl (show 46 < 51 by decide) (by kernel_rfl) rfl ?_ ?_;(focus first | rfl | (simp only [zV,guardV,Nat.reduceEqDiff,reduceIte];done));simp only [zW,set_some,Nat.reduceEqDiff,reduceIte])
     refine zdgUnOp q25 true 24 47 ?_;refine zdgPick q25 true 25 48 ?_;refine zdPick q25 true 26 49 ?_;refine aAny_done (by kernel_rfl) ?_;refine k25 _ ?_;refine n24 _ _ (weak_keep [1,16,17,18,49] _) ?_;refine zk ⟨?_⟩;refine v_condS _ rfl ?_ ?_
     ·intro hc2
      refine yR [2] ⟨?_⟩;refine zr ⟨?_⟩
      exact ret_pure rfl (by rw [townB,hh,←hR,hst];(try simp at hc2);first | (simp [hc2];done) | (rcases hc2 with h | h<;>simp [h];done) | (simp_all;done)) (.inl rfl)
     ·intro hc2
      refine zn [1,16,17,18] ⟨?_⟩;refine yV ⟨?_⟩;refine n9 _ (i+1) ?_ ?_ ?_
      ·refine weak_bothS [1,16,17,18] [0] ⟨?_⟩
       rfl
      ·exact ⟨by omega,by rw [←hR,hst];(try simp at hc2);first | (simp [hc2];done) | (simp_all;done)⟩
      ·show _ < _;omega
   ·intro hc1
    refine zn [] ⟨?_⟩;refine yR [2] ⟨?_⟩;refine zr ⟨?_⟩
    exact ret_pure rfl (by rw [townB,hh,←hR,chain_end (by omega)];rfl) (.inl rfl)
def szStr1 (n:Int) (s:ByteArray):Int:=if n - (s.size:Int) < 0 then -1 else n - (s.size:Int)
theorem szStr1_le (n:Int) (s:ByteArray) (hn:0≤n):szStr1 n s≤n:=by
  unfold szStr1;split<;>omega
set_option maxHeartbeats 1000000 in
theorem toStringS_con (l:List ByteArray) (hl:l.length≤1048576):Con Tryz.prog 192 [.sl (l.map V.str)] [] (.ref 0) [.arr (l.map V.str) .flat]:=by
 refine v_con [.tmp 2] [] Tryz.func192 rfl rfl rfl (by simp [Tryz.ntmps192]) ?_
 intro Q0 n0 r0
 simp only [Tryz.ntmps192,envFrom,Nat.reduceAdd]
 have T:=Tys.mk (And.intro Ty.t3 (And.intro Ty.t9 Ty.t51))
 have F:=Fc.mk True.intro
 refine yR [0] ⟨?_⟩;refine yR [0,3] ⟨?_⟩;refine v_seq ?_;intros;refine yR [0,3,4] ⟨?_⟩;refine v_block ?_;intros;refine v_loop (fun i=>⟨[(0,.sl (l.map V.str)),(3,.ref 0),(4,.int .i64 (Nat.cast i))],[.arr (fillTo V.str (V.str .empty) l i) .flat],false,22,0⟩) (fun i=>i≤l.length) (fun i=>l.length - i) 0 ?_ ?_ ?_
 ·refine weak_bothS [0,3,4] [1] ⟨?_⟩
  rw [fill_zero];rfl
 ·exact Nat.zero_le _
 ·rintro i hok6 Q6 n6 e6 r6
  have hi1:i≤l.length:=hok6
  refine v_seq ?_;intros;refine yR [0,3,4,11] ⟨?_⟩;refine v_condS _ rfl ?_ ?_
  ·intro hc0
   have hlt:i < l.length:=by omega
   obtain ⟨x,hx⟩:∃x,l[i]? =some x:=⟨l[i],List.getElem?_eq_getElem hlt⟩
   refine zn [0,3,4] ⟨?_⟩;refine v_seq ?_;intro Q10 n10 e10 r10;refine v_block ?_;intro Q11 n11 x11 e11 r11;refine v_region ?_;intro K12 k12
   have F:=Fc.mk (And.intro (fun f=>getD_map (f:=f) hx) (And.intro (fun f z=>fill_len (f:=f) (z:=z) hi1) (And.intro (fun f z=>fill_get (f:=f) (z:=z) hlt) (fun f z=>fill_set (f:=f) (z:=z) hx))))
   refine zq8 ⟨?_⟩;refine v_op ?_;intro K k
   simp only [zE,zL,zN,aStepM,optable,set_some,Nat.reduceEqDiff,reduceIte,Nat.reduceLT,implies_true,forall_const,reduceCtorEq,V.ofValue,V.ofScalar,V.un,V.gd,aExec,aop,List.mem_cons,List.not_mem_nil,or_false,forall_eq_or_imp,forall_eq,aIndexAddr,row_mk,Blk.row,Go.Vm.V.cells,List.forall_mem_map,List.length_map,Int.toNat_natCast,Int.reduceToNat,TypeDesc.slice.injEq,Nat.reduceAdd,Nat.reduceLeDiff,Nat.reduceMul,Tryz.underlying9,Ty.c9,Ty.a9,Tryz.underlying51,Ty.c51,Ty.a51,getD_map hx,fill_len hi1,fill_get hlt,fill_set hx]
   repeat (refine And.intro (by first | omega | (exact fill_all (fun _=>rfl) rfl) | (intros;omega) | (intros;simp_all;done) | (intros;simp_all;omega)) ?_)
   refine k _ ?_;clear k K;refine zLoad ⟨?_⟩;refine v_op ?_;intro K k
   simp only [zE,zL,zN,aStepM,optable,set_some,Nat.reduceEqDiff,reduceIte,Nat.reduceLT,implies_true,forall_const,reduceCtorEq,V.ofValue,V.ofScalar,V.un,V.gd,aExec,aop,List.mem_cons,List.not_mem_nil,or_false,forall_eq_or_imp,forall_eq,aIndexAddr,row_mk,Blk.row,Go.Vm.V.cells,List.forall_mem_map,List.length_map,Int.toNat_natCast,Int.reduceToNat,TypeDesc.slice.injEq,Nat.reduceAdd,Nat.reduceLeDiff,Nat.reduceMul,Tryz.underlying9,Ty.c9,Ty.a9,Tryz.underlying51,Ty.c51,Ty.a51,getD_map hx,fill_len hi1,fill_get hlt,fill_set hx]
   repeat (refine And.intro (by first | omega | (exact fill_all (fun _=>rfl) rfl) | (intros;omega) | (intros;simp_all;done) | (intros;simp_all;omega)) ?_)
   refine k _ ?_;clear k K;refine v_op ?_;intro K k
   simp only [zE,zS,zJ,zL,zO,zN,aStepM,optable,set_some,Nat.reduceEqDiff,reduceIte,Nat.reduceLT,implies_true,forall_const,reduceCtorEq,V.ofValue,V.ofScalar,V.un,V.gd,aExec,aop,aStore,setCells,V.isVal,V.cells,kindOf,kindAll,V.noSl,V.noRef,gt_iff_lt,Nat.reduceAdd,Nat.reduceLeDiff,Nat.reduceMul,takeV,takeCell,takeCells,row_mk,Blk.row,killAll,Nat.reduceBEq,join_t,Tryz.underlying9,Ty.c9,Ty.a9,getD_map hx,fill_len hi1,fill_get hlt,fill_set hx]
   repeat (refine And.intro (by first | omega | (exact fill_all (fun _=>rfl) rfl) | (intros;omega) | (intros;simp_all;done) | (intros;simp_all;omega)) ?_)
   refine k _ ?_;clear k K;refine k12 _ ?_;refine n11 _ ?_;refine n10 _ _ (weak_keep [0,3,4] _) ?_;refine zk ⟨?_⟩;refine yV ⟨?_⟩;refine n6 _ (i+1) ?_ ?_ ?_
   ·refine weak_bothS [0,3,4] [0] ⟨?_⟩
    rfl
   ·exact hlt
   ·show _ < _;omega
  ·intro hc0
   refine zn [3] ⟨?_⟩;refine yR [2] ⟨?_⟩;refine zr ⟨?_⟩
   rw [←fill_end (f:=V.str) (z:=(V.str .empty)) (show l.length≤i by omega)]
   exact ret_ref rfl (.inl rfl)
set_option maxHeartbeats 1000000 in
theorem szStringS_con (n:Int) (l:List ByteArray) (hn:0≤n∧n≤1048576) (hl:l.length≤9223372036854775807) (hls:∀s∈l,s.size≤9223372036854775807):Con Tryz.prog 188 [.sl (l.map V.str),.int .i64 n] [] (.int .i64 (if n - (l.length:Int) < 0 then -1 else szLst szStr1 (n - (l.length:Int)) l)) []:=by
 refine v_con [.tmp 4] [] Tryz.func188 rfl rfl rfl (by simp [Tryz.ntmps188]) ?_
 intro Q0 n0 r0
 simp only [Tryz.ntmps188,envFrom,Nat.reduceAdd]
 have T:=Tys.mk (And.intro Ty.t3 (And.intro Ty.t9 Ty.t51))
 have F:=Fc.mk True.intro
 refine yR [0,1] ⟨?_⟩;refine yR [0,1] ⟨?_⟩;refine v_seq ?_;intros;refine yR [0,1,11] ⟨?_⟩;refine v_condS _ rfl ?_ ?_
 ·intro hc0
  refine yR [4] ⟨?_⟩;refine zr ⟨?_⟩
  exact ret_pure rfl (by rw [if_pos (by omega)]) (.inl rfl)
 ·intro hc0
  refine zn [0,1] ⟨?_⟩;refine v_seq ?_;intros;refine yR [0,1,5] ⟨?_⟩;refine v_block ?_;intros;refine v_loop (fun p=>⟨[(0,.sl (l.map V.str)),(1,.int .i64 p.2),(5,.int .i64 (Nat.cast p.1))],[],false,28,0⟩) (fun p=>p.1≤l.length∧0≤p.2∧p.2≤1048576∧szLst szStr1 p.2 (l.drop p.1)=szLst szStr1 (n - (l.length:Int)) l) (fun p=>l.length - p.1) (0,n - (l.length:Int)) ?_ ?_ ?_
  ·refine weak_of [0,1,5] ?_
   simp only [keep_mk,keepE_nil,keepE_cons,look_cons,look_nil,Nat.reduceEqDiff,reduceIte]
   rfl
  ·exact ⟨Nat.zero_le _,by omega,by omega,by simp⟩
  ·rintro ⟨i,m⟩ hok10 Q10 n10 e10 r10
   obtain ⟨hi1,hm0,hm1,hR⟩:=hok10
   simp only [] at hi1 hm0 hm1 hR⊢
   refine v_seq ?_;intros;refine yR [0,1,5,15] ⟨?_⟩;refine v_condS _ rfl ?_ ?_
   ·intro hc1
    have hlt:i < l.length:=by omega
    obtain ⟨x,hx⟩:∃x,l[i]? =some x:=⟨l[i],List.getElem?_eq_getElem hlt⟩
    have hlx:=hls x (List.mem_of_getElem? hx)
    have hstep:szLst szStr1 m (l.drop i)=if szStr1 m x < 0 then -1 else szLst szStr1 (szStr1 m x) (l.drop (i+1)):=by rw [getElem_drop_cons hx,szLst]
    refine zn [0,1,5] ⟨?_⟩;refine v_seq ?_;intros;refine v_block ?_;intros
    have F:=Fc.mk (fun f=>getD_map (f:=f) hx)
    refine yR [0,1,5] ⟨?_⟩;refine yR [0,1,5,26] ⟨?_⟩;refine v_condS _ rfl ?_ ?_
    ·intro hc2
     have hneg:szStr1 m x=-1:=by rw [szStr1,if_pos hc2]
     refine yR [4] ⟨?_⟩;refine zr ⟨?_⟩
     exact ret_pure rfl (by rw [if_neg (by omega),←hR,hstep,if_pos (by omega)]) (.inl rfl)
    ·intro hc2
     have hpos:szStr1 m x=m - (x.size:Int):=by rw [szStr1,if_neg (by omega)]
     refine zn [0,1,5] ⟨?_⟩;refine yV ⟨?_⟩;refine n10 _ (i+1,m - (x.size:Int)) ?_ ?_ ?_
     ·refine weak_of [0,1,5] ?_
      simp only [keep_mk,keepE_nil,keepE_cons,look_cons,look_nil,Nat.reduceEqDiff,reduceIte]
      rfl
     ·exact ⟨by simp only [];omega,by simp only [];omega,by simp only [];omega,by simp only [];rw [←hR,hstep,if_neg (by omega),hpos]⟩
     ·show _ < _;simp only [];omega
   ·intro hc1
    refine zn [1] ⟨?_⟩;refine yR [4] ⟨?_⟩;refine zr ⟨?_⟩
    exact ret_pure rfl (by rw [if_neg (by omega),←hR,List.drop_of_length_le (by omega)];rfl) (.inl rfl)
set_option maxHeartbeats 1000000 in
theorem eqStringS_con (a b:List ByteArray) (ha:a.length≤1048576):Con Tryz.prog 23 [.sl (a.map V.str),.sl (b.map V.str)] [] (.bool (decide (a=b))) []:=by
 refine v_con [.tmp 4] [] Tryz.func23 rfl rfl rfl (by simp [Tryz.ntmps23]) ?_
 intro Q0 n0 r0
 simp only [Tryz.ntmps23,envFrom,Nat.reduceAdd]
 have T:=Tys.mk (And.intro Ty.t3 (And.intro Ty.t9 Ty.t51))
 have F:=Fc.mk True.intro
 refine yR [0,1] ⟨?_⟩;refine v_seq ?_;intros;refine yR [0,1,10] ⟨?_⟩;refine v_condS _ rfl ?_ ?_
 ·intro hc0
  refine yR [4] ⟨?_⟩;refine zr ⟨?_⟩
  exact ret_pure rfl (by rw [decide_eq_false (fun h=>by subst h;simp at hc0)]) (.inl rfl)
 ·intro hc0
  have hab:a.length=b.length:=by omega
  refine zn [0,1] ⟨?_⟩;refine v_seq ?_;intros;refine yR [0,1,5] ⟨?_⟩;refine v_block ?_;intros;refine v_loop (fun i=>⟨[(0,.sl (a.map V.str)),(1,.sl (b.map V.str)),(5,.int .i64 (Nat.cast i))],[],false,26,0⟩) (fun i=>i≤a.length∧((a=b)↔(a.drop i=b.drop i))) (fun i=>a.length - i) 0 ?_ ?_ ?_
  ·refine weak_of [0,1,5] ?_
   simp only [keep_mk,keepE_nil,keepE_cons,look_cons,look_nil,Nat.reduceEqDiff,reduceIte]
   rfl
  ·exact ⟨Nat.zero_le _,by simp⟩
  ·rintro i hok9 Q9 n9 e9 r9
   obtain ⟨hi1,hR⟩:=hok9
   refine v_seq ?_;intros;refine yR [0,1,5,14] ⟨?_⟩;refine v_condS _ rfl ?_ ?_
   ·intro hc1
    have hlt:i < a.length:=by omega
    obtain ⟨x,hx⟩:∃x,a[i]? =some x:=⟨a[i],List.getElem?_eq_getElem hlt⟩
    obtain ⟨y,hy⟩:∃y,b[i]? =some y:=⟨b[i],List.getElem?_eq_getElem (by omega)⟩
    have hstep:=eq_drop hab hx hy
    refine zn [0,1,5] ⟨?_⟩;refine v_seq ?_;intros;refine v_block ?_;intros;refine v_seq ?_;intro Q15 n15 e15 r15;refine v_draw (by kernel_rfl) ?_;intro K16 q16 k16
    show aAny _ _ _ _ 9 (Array.replicate 9 false) _
    have F:=Fc.mk (And.intro (fun f=>getD_map (f:=f) hx) (fun f=>getD_map (f:=f) hy))
    refine zdMove q16 true 0 17 ?_;refine zdMove q16 true 1 18 ?_;refine zdIndexAddr q16 true 2 19 ?_;refine zdLoad q16 true 3 20 ?_;refine zdMove q16 true 4 21 ?_;refine zdMove q16 true 5 22 ?_;refine zdIndexAddr q16 true 6 23 ?_;refine zdLoad q16 true 7 24 ?_;refine zdBinOp q16 true 8 25 ?_;refine aAny_done (by kernel_rfl) ?_;refine k16 _ ?_;refine n15 _ _ (weak_keep [0,1,5,25] _) ?_;refine zk ⟨?_⟩;refine v_condS _ rfl ?_ ?_
    ·intro hc2
     refine yR [4] ⟨?_⟩;refine zr ⟨?_⟩
     exact ret_pure rfl (by rw [decide_eq_false (fun h=>hc2 (hstep.1 (hR.1 h)).1)]) (.inl rfl)
    ·intro hc2
     refine zn [0,1,5] ⟨?_⟩;refine yV ⟨?_⟩;refine n9 _ (i+1) ?_ ?_ ?_
     ·refine weak_of [0,1,5] ?_
      simp only [keep_mk,keepE_nil,keepE_cons,look_cons,look_nil,Nat.reduceEqDiff,reduceIte]
      rfl
     ·exact ⟨by omega,hR.trans (hstep.trans ⟨fun h=>h.2,fun h=>⟨hc2,h⟩⟩)⟩
     ·show _ < _;omega
   ·intro hc1
    refine zn [] ⟨?_⟩;refine yR [4] ⟨?_⟩;refine zr ⟨?_⟩
    exact ret_pure rfl (by rw [decide_eq_true (hR.2 (by rw [List.drop_of_length_le (by omega),List.drop_of_length_le (by omega)]))]) (.inl rfl)
set_option maxHeartbeats 1000000 in
theorem szTown_con (n:Int) (ss:List (Int×Int×Int)) (m:Int) (hn:0≤m∧m≤1048576) (hl:ss.length≤9223372036854775807):Con Tryz.prog 8 [.agg [.int .i64 n,.sl (ss.map (fun t:Int×Int×Int=>V.agg [V.int .i64 t.1,V.int .i64 t.2.1,V.int .i64 t.2.2]))],.int .i64 m] [] (.int .i64 (if m - (ss.length:Int) < 0 then -1 else m - (ss.length:Int))) []:=by
 refine v_con [.tmp 4] [] Tryz.func8 rfl rfl rfl (by simp [Tryz.ntmps8]) ?_
 intro Q0 n0 r0
 simp only [Tryz.ntmps8,envFrom,Nat.reduceAdd]
 have T:=Tys.mk (And.intro Ty.t3 (And.intro Ty.t22 (And.intro Ty.t24 Ty.t171)))
 have F:=Fc.mk True.intro
 refine yR [1,2] ⟨?_⟩;refine yRc [1] (szStreetS_con m ss hn hl) ⟨?_⟩;refine v_seq ?_;intros;refine yR [1,10] ⟨?_⟩;refine v_condS _ rfl ?_ ?_
 ·intro hc0
  refine yR [4] ⟨?_⟩;refine zr ⟨?_⟩
  exact ret_pure rfl (by split at hc0<;>first | omega | (simp only [*];done) | (rw [if_pos (by omega)])) (.inl rfl)
 ·intro hc0
  refine zn [1] ⟨?_⟩;refine yR [4] ⟨?_⟩;refine zr ⟨?_⟩
  exact ret_pure rfl rfl (.inl rfl)
set_option maxHeartbeats 1000000 in
theorem toTown_con (n:Int) (ss:List (Int×Int×Int)) (hl:ss.length≤1048576):Con Tryz.prog 11 [.agg [.int .i64 n,.sl (ss.map (fun t:Int×Int×Int=>V.agg [V.int .i64 t.1,V.int .i64 t.2.1,V.int .i64 t.2.2]))]] [] (.agg [.int .i64 n,.ref 0]) [.arr (ss.map (fun t:Int×Int×Int=>V.agg [V.int .i64 t.1,V.int .i64 t.2.1,V.int .i64 t.2.2])) .flat]:=by
 refine v_con [.cell 2 41] [] Tryz.func11 rfl rfl rfl (by simp [Tryz.ntmps11]) ?_
 intro Q0 n0 r0
 simp only [Tryz.ntmps11,envFrom,Nat.reduceAdd]
 have T:=Tys.mk (And.intro Ty.t3 (And.intro Ty.t22 (And.intro Ty.t24 (And.intro Ty.t39 (And.intro Ty.t41 (And.intro Ty.t169 Ty.t171))))))
 have F:=Fc.mk True.intro
 refine yR [1,2] ⟨?_⟩;refine yR [1,2,3] ⟨?_⟩;refine yR [1,2,3] ⟨?_⟩;refine yRc [2,3] (toStreetS_con ss hl) ⟨?_⟩;refine yR [2] ⟨?_⟩;refine zr ⟨?_⟩
 simp only [zE,zL,zO,zN,aStepM,optable,set_some,Nat.reduceEqDiff,reduceIte,Nat.reduceLT,implies_true,forall_const,reduceCtorEq,V.ofValue,V.ofScalar,V.un,V.gd,aLoad,row_mk,Blk.row,PartOK,Go.Vm.part,V.cells,V.noSl,V.noRef,Nat.reduceAdd,Nat.reduceLeDiff,Nat.reduceMul,Tryz.underlying3,Ty.c3,Ty.a3,Tryz.underlying39,Ty.c39,Ty.a39,Tryz.underlying41,Ty.c41,Ty.a41]
 exact ret_gen [5] rfl rfl (by decide) rfl (by simp) (by simp [Blk.kindIs]) rfl
set_option maxHeartbeats 1000000 in
theorem eqTown_con (n:Int) (ss:List (Int×Int×Int)) (hl:ss.length≤1048576):Con Tryz.prog 15 [.agg [.int .i64 n,.sl (ss.map (fun t:Int×Int×Int=>V.agg [V.int .i64 t.1,V.int .i64 t.2.1,V.int .i64 t.2.2]))],.agg [.int .i64 n,.sl (ss.map (fun t:Int×Int×Int=>V.agg [V.int .i64 t.1,V.int .i64 t.2.1,V.int .i64 t.2.2]))]] [] (.bool true) []:=by
 refine v_con [.tmp 4] [] Tryz.func15 rfl rfl rfl (by simp [Tryz.ntmps15]) ?_
 intro Q0 n0 r0
 simp only [Tryz.ntmps15,envFrom,Nat.reduceAdd]
 have T:=Tys.mk (And.intro Ty.t3 (And.intro Ty.t4 (And.intro Ty.t39 (And.intro Ty.t41 Ty.t169))))
 have F:=Fc.mk True.intro
 refine yR [2,3] ⟨?_⟩;refine v_seq ?_;intros;refine yR [2,3,9] ⟨?_⟩;refine v_cond _ rfl ?_ ?_
 ·intro hc0
  exfalso;simp at hc0
 ·intro hc0
  try simp only [zC,reduceCtorEq] at hc0
  refine zn [2,3] ⟨?_⟩;refine v_seq ?_;intros;refine yRc [15] (eqStreetS_con ss ss hl) ⟨?_⟩;refine v_cond _ rfl ?_ ?_
  ·intro hc1
   exfalso;simp at hc1
  ·intro hc1
   try simp only [zC,reduceCtorEq] at hc1
   refine zn [] ⟨?_⟩;refine yR [4] ⟨?_⟩;refine zr ⟨?_⟩
   exact ret_pure rfl rfl (.inl rfl)
def apOK (x:(ByteArray×Int×Int×Int×Int)):Bool:=nameB x.1 && (decide (0≤x.2.1) && decide (x.2.1≤3)) && (decide (0≤x.2.2.1) && decide (x.2.2.1≤13)) && (decide (1≤x.2.2.2.1) && decide (x.2.2.2.1≤9)) && (decide (0≤x.2.2.2.2) && decide (x.2.2.2.2≤5))
def apBf (x y:(ByteArray×Int×Int×Int×Int)):Bool:=strLt x.1 y.1
def fleetB (l:List (ByteArray×Int×Int×Int×Int)):Bool:=chainAt apOK apBf l 0 && decide ((l.length:Int)≤12)
theorem fleet_len {l:List (ByteArray×Int×Int×Int×Int)} (h:fleetB l=true):l.length≤12:=by
  simp only [fleetB,Bool.and_eq_true,decide_eq_true_eq] at h
  omega
set_option maxHeartbeats 1000000 in
theorem apState_con (n:Int):Con Tryz.prog 202 [.int .i64 n] [] (.bool (decide (0≤n) && decide (n≤5))) []:=by
 refine v_con [.tmp 2] [] Tryz.func202 rfl rfl rfl (by simp [Tryz.ntmps202]) ?_
 intro Q0 n0 r0
 simp only [Tryz.ntmps202,envFrom,Nat.reduceAdd]
 have T:=Tys.mk (And.intro Ty.t3 Ty.t4)
 have F:=Fc.mk True.intro
 refine yR [0] ⟨?_⟩;refine yRc [2] (l1In_con _ _ _) ⟨?_⟩;refine zr ⟨?_⟩
 exact ret_pure rfl (by first | rfl | simp) (.inl rfl)
set_option maxHeartbeats 1000000 in
theorem isState_con (n:Int):Con Tryz.prog 204 [.int .i64 n] [] (.bool (decide (0≤n) && decide (n≤5))) []:=by
 refine v_con [.tmp 2] [] Tryz.func204 rfl rfl rfl (by simp [Tryz.ntmps204]) ?_
 intro Q0 n0 r0
 simp only [Tryz.ntmps204,envFrom,Nat.reduceAdd]
 have T:=Tys.mk (And.intro Ty.t3 Ty.t4)
 have F:=Fc.mk True.intro
 refine yR [0] ⟨?_⟩;refine yRc [2] (inside_con _ _ _) ⟨?_⟩;refine zr ⟨?_⟩
 exact ret_pure rfl (by first | rfl | simp) (.inl rfl)
set_option maxHeartbeats 1000000 in
theorem apNode_con (n:Int):Con Tryz.prog 164 [.int .i64 n] [] (.bool (decide (0≤n) && decide (n≤13))) []:=by
 refine v_con [.tmp 2] [] Tryz.func164 rfl rfl rfl (by simp [Tryz.ntmps164]) ?_
 intro Q0 n0 r0
 simp only [Tryz.ntmps164,envFrom,Nat.reduceAdd]
 have T:=Tys.mk (And.intro Ty.t3 Ty.t4)
 have F:=Fc.mk True.intro
 refine yR [0] ⟨?_⟩;refine yRc [2] (l1In_con _ _ _) ⟨?_⟩;refine zr ⟨?_⟩
 exact ret_pure rfl (by first | rfl | simp) (.inl rfl)
set_option maxHeartbeats 1000000 in
theorem apGood_con (x0:ByteArray) (x1:Int) (x2:Int) (x3:Int) (x4:Int) (hs:x0.size≤9223372036854775807):Con Tryz.prog 228 [.agg [V.str x0,V.int .i64 x1,V.int .i64 x2,V.int .i64 x3,V.int .i64 x4]] [] (.bool (apOK (x0,x1,x2,x3,x4))) []:=by
 refine v_con [.tmp 2] [] Tryz.func228 rfl rfl rfl (by simp [Tryz.ntmps228]) ?_
 intro Q0 n0 r0
 simp only [Tryz.ntmps228,envFrom,Nat.reduceAdd]
 have T:=Tys.mk (And.intro Ty.t3 (And.intro Ty.t4 (And.intro Ty.t9 Ty.t96)))
 have F:=Fc.mk True.intro
 refine yR [1] ⟨?_⟩;refine v_seqR [2] ?_;intro K2 k2;refine zq7 ⟨?_⟩;refine zc (apName_con _ hs) ⟨?_⟩;refine zq5 ⟨?_⟩;refine zgc (l1In_con _ _ _) ⟨?_⟩;refine zq6 ⟨?_⟩;refine zgc (apNode_con _) ⟨?_⟩;refine zq6 ⟨?_⟩;refine zgc (l1In_con _ _ _) ⟨?_⟩;refine zq6 ⟨?_⟩;refine zgc (apState_con _) ⟨?_⟩;refine zPick ⟨?_⟩;refine zAssign ⟨?_⟩;refine k2 _ ?_;refine zq3 ⟨?_⟩
 exact ret_pure rfl (by first | rfl | simp [apOK,Bool.and_assoc]) (.inl rfl)
set_option maxHeartbeats 1000000 in
theorem isAppliance_con (x0:ByteArray) (x1:Int) (x2:Int) (x3:Int) (x4:Int) (hs:x0.size≤9223372036854775807):Con Tryz.prog 232 [.agg [V.str x0,V.int .i64 x1,V.int .i64 x2,V.int .i64 x3,V.int .i64 x4]] [] (.bool (apOK (x0,x1,x2,x3,x4))) []:=by
 refine v_con [.tmp 2] [] Tryz.func232 rfl rfl rfl (by simp [Tryz.ntmps232]) ?_
 intro Q0 n0 r0
 simp only [Tryz.ntmps232,envFrom,Nat.reduceAdd]
 have T:=Tys.mk (And.intro Ty.t3 (And.intro Ty.t4 (And.intro Ty.t9 Ty.t96)))
 have F:=Fc.mk True.intro
 refine yR [1] ⟨?_⟩;refine v_seqR [2] ?_;intro K2 k2;refine zq7 ⟨?_⟩;refine zc (isName_con _ hs) ⟨?_⟩;refine zq5 ⟨?_⟩;refine zgc (inside_con _ _ _) ⟨?_⟩;refine zq6 ⟨?_⟩;refine zgc (inside_con _ _ _) ⟨?_⟩;refine zq6 ⟨?_⟩;refine zgc (inside_con _ _ _) ⟨?_⟩;refine zq6 ⟨?_⟩;refine zgc (isState_con _) ⟨?_⟩;refine zPick ⟨?_⟩;refine zAssign ⟨?_⟩;refine k2 _ ?_;refine zq3 ⟨?_⟩
 exact ret_pure rfl (by first | rfl | simp [apOK,Bool.and_assoc]) (.inl rfl)
set_option maxHeartbeats 1000000 in
theorem apFleet_con (fl:List (ByteArray×Int×Int×Int×Int)) (hl:fl.length≤1048576) (hls:∀t∈fl,t.1.size≤9223372036854775807):Con Tryz.prog 189 [.sl (fl.map (fun t:ByteArray×Int×Int×Int×Int=>V.agg [V.str t.1,V.int .i64 t.2.1,V.int .i64 t.2.2.1,V.int .i64 t.2.2.2.1,V.int .i64 t.2.2.2.2]))] [] (.bool (fleetB fl)) []:=by
 refine v_con [.tmp 2] [] Tryz.func189 rfl rfl rfl (by simp [Tryz.ntmps189]) ?_
 intro Q0 n0 r0
 simp only [Tryz.ntmps189,envFrom,Nat.reduceAdd]
 have T:=Tys.mk (And.intro Ty.t3 (And.intro Ty.t4 (And.intro Ty.t9 (And.intro Ty.t32 Ty.t96))))
 have F:=Fc.mk True.intro
 refine yR [0] ⟨?_⟩;refine v_seq ?_;intros;refine yR [0,5,6,7] ⟨?_⟩;refine v_block ?_;intro Q4 n4 x4 e4 r4;refine v_loop (fun i=>⟨[(0,.sl (fl.map (fun t:ByteArray×Int×Int×Int×Int=>V.agg [V.str t.1,V.int .i64 t.2.1,V.int .i64 t.2.2.1,V.int .i64 t.2.2.2.1,V.int .i64 t.2.2.2.2]))),(5,.sl (fl.map (fun t:ByteArray×Int×Int×Int×Int=>V.agg [V.str t.1,V.int .i64 t.2.1,V.int .i64 t.2.2.1,V.int .i64 t.2.2.2.1,V.int .i64 t.2.2.2.2]))),(6,.int .i64 fl.length),(7,.int .i64 (Nat.cast i))],[],false,34,0⟩) (fun i=>i≤fl.length∧chainAt apOK apBf fl i=chainAt apOK apBf fl 0) (fun i=>fl.length - i) 0 ?_ ?_ ?_
 ·refine weak_of [0,5,6,7] ?_
  simp only [keep_mk,keepE_nil,keepE_cons,look_cons,look_nil,Nat.reduceEqDiff,reduceIte]
  rfl
 ·exact ⟨Nat.zero_le _,rfl⟩
 ·rintro i hok5 Q5 n5 e5 r5
  obtain ⟨hi1,hR⟩:=hok5
  refine yR [0,5,6,7,8] ⟨?_⟩;refine v_seq ?_;intros;refine v_condS _ rfl ?_ ?_
  ·intro hc0
   have hlt:i < fl.length:=by omega
   obtain ⟨⟨x0,x1,x2,x3,x4⟩,hx⟩:∃x:ByteArray×Int×Int×Int×Int,fl[i]? =some x:=⟨fl[i]'(by omega),List.getElem?_eq_getElem (by omega)⟩
   have hsx:=hls _ (List.mem_of_getElem? hx)
   simp only [] at hsx
   rcases Nat.eq_zero_or_pos i with h0 | h0
   ·skip
    have hi0:¬((0:Int) < (i:Int)):=by omega
    have hst:chainAt apOK apBf fl i=(apOK (x0,x1,x2,x3,x4) && chainAt apOK apBf fl (i+1)):=by subst h0;exact chain_zero hx
    refine zn [0,5,6,7] ⟨?_⟩;refine v_seq ?_;intros;refine v_block ?_;intros
    have F:=Fc.mk (And.intro (fun f=>getD_map (f:=f) hx) (And.intro hi0 (And.intro @decide_false @Bool.and_false)))
    refine yR [0,3,4,5,6,7] ⟨?_⟩;refine v_seq ?_;intro Q12 n12 e12 r12;refine v_draw (by kernel_rfl) ?_;intro K13 q13 k13
    show aAny _ _ _ _ 18 (Array.replicate 18 false) _
    refine zdLoad q13 true 0 12 ?_;refine zoc 1 (apGood_con x0 x1 x2 x3 x4 hsx) ⟨?_⟩;refine zdUnOp q13 true 2 14 ?_;refine zdMove q13 true 3 15 ?_;refine zdgMove q13 true 4 16 ?_;refine zdgBinOp q13 true 5 17 ?_;refine zdgMove q13 true 6 18 ?_;refine zdgMove q13 true 7 19 ?_;refine zdgMove q13 true 8 20 ?_;refine zdgBinOpW q13 true 9 21 ?_;refine zdgIndexAddr q13 true 10 22 ?_;refine zdgFieldAddr q13 true 11 23 ?_;refine zdgLoad q13 true 12 24 ?_;refine zdgFieldAddr q13 true 13 25 ?_;refine zdgLoad q13 true 14 26 ?_;refine zdgBinOp q13 true 15 27 ?_;refine zdgPick q13 true 16 28 ?_;refine zdPick q13 true 17 29 ?_;refine aAny_done (by kernel_rfl) ?_;refine k13 _ ?_;refine n12 _ _ (weak_keep [0,5,6,7,29] _) ?_;refine zk ⟨?_⟩;refine v_condS _ rfl ?_ ?_
    ·intro hc1
     refine yR [2] ⟨?_⟩;refine zr ⟨?_⟩
     exact ret_pure rfl (by rw [fleetB,←hR,hst];clear hR hst;(try simp at hc1);first | (simp [hc1];done) | (rcases hc1 with h | h<;>simp [h,apBf];done) | (simp_all [apBf];done)) (.inl rfl)
    ·intro hc1
     refine zn [0,5,6,7] ⟨?_⟩;refine yV ⟨?_⟩;refine n5 _ (i+1) ?_ ?_ ?_
     ·refine weak_bothS [0,5,6,7] [] ⟨?_⟩
      rfl
     ·exact ⟨by omega,by rw [←hR,hst];clear hR hst;(try simp at hc1);first | (simp [hc1];done) | (simp_all [apBf];done)⟩
     ·show _ < _;omega
   ·skip
    obtain ⟨⟨y0,y1,y2,y3,y4⟩,hy⟩:∃x:ByteArray×Int×Int×Int×Int,fl[i - 1]? =some x:=⟨fl[i - 1]'(by omega),List.getElem?_eq_getElem (by omega)⟩
    have hi0:(0:Int) < i:=by omega
    have hk:((i:Int) - 1).toNat=i - 1:=by omega
    have hst:=chain_succ (ok:=apOK) (bf:=apBf) h0 hy hx
    refine zn [0,5,6,7] ⟨?_⟩;refine v_seq ?_;intros;refine v_block ?_;intros
    have F:=Fc.mk (And.intro (fun f=>getD_map (f:=f) hx) (And.intro hi0 (And.intro hk (And.intro (fun f=>getD_map (f:=f) hy) (And.intro @decide_true @Bool.and_true)))))
    refine yR [0,3,4,5,6,7] ⟨?_⟩;refine v_seq ?_;intro Q20 n20 e20 r20;refine v_draw (by kernel_rfl) ?_;intro K21 q21 k21
    show aAny _ _ _ _ 18 (Array.replicate 18 false) _
    refine zdLoad q21 true 0 12 ?_;refine zoc 1 (apGood_con x0 x1 x2 x3 x4 hsx) ⟨?_⟩;refine zdUnOp q21 true 2 14 ?_;refine zdMove q21 true 3 15 ?_;refine zdgMove q21 true 4 16 ?_;refine zdgBinOp q21 true 5 17 ?_;refine zdgMove q21 true 6 18 ?_;refine zdgMove q21 true 7 19 ?_;refine zdgMove q21 true 8 20 ?_;refine zdgBinOpW q21 true 9 21 ?_;refine zdgIndexAddr q21 true 10 22 ?_;refine zdgFieldAddr q21 true 11 23 ?_;refine zdgLoad q21 true 12 24 ?_;refine zdgFieldAddr q21 true 13 25 ?_;refine zdgLoad q21 true 14 26 ?_;refine zdgBinOp q21 true 15 27 ?_;refine zdgPick q21 true 16 28 ?_;refine zdPick q21 true 17 29 ?_;refine aAny_done (by kernel_rfl) ?_;refine k21 _ ?_;refine n20 _ _ (weak_keep [0,5,6,7,29] _) ?_;refine zk ⟨?_⟩;refine v_condS _ rfl ?_ ?_
    ·intro hc1
     refine yR [2] ⟨?_⟩;refine zr ⟨?_⟩
     exact ret_pure rfl (by rw [fleetB,←hR,hst];clear hR hst;(try simp at hc1);first | (simp [hc1];done) | (rcases hc1 with h | h<;>simp [h,apBf];done) | (simp_all [apBf];done)) (.inl rfl)
    ·intro hc1
     refine zn [0,5,6,7] ⟨?_⟩;refine yV ⟨?_⟩;refine n5 _ (i+1) ?_ ?_ ?_
     ·refine weak_bothS [0,5,6,7] [] ⟨?_⟩
      rfl
     ·exact ⟨by omega,by rw [←hR,hst];clear hR hst;(try simp at hc1);first | (simp [hc1];done) | (simp_all [apBf];done)⟩
     ·show _ < _;omega
  ·intro hc0
   refine zn [0] ⟨?_⟩;refine yR [2] ⟨?_⟩;refine zr ⟨?_⟩
   exact ret_pure rfl (by rw [fleetB,←hR,chain_end (by omega)];simp) (.inl rfl)
set_option maxHeartbeats 1000000 in
theorem isFleet_con (fl:List (ByteArray×Int×Int×Int×Int)) (hl:fl.length≤1048576) (hls:∀t∈fl,t.1.size≤9223372036854775807):Con Tryz.prog 195 [.sl (fl.map (fun t:ByteArray×Int×Int×Int×Int=>V.agg [V.str t.1,V.int .i64 t.2.1,V.int .i64 t.2.2.1,V.int .i64 t.2.2.2.1,V.int .i64 t.2.2.2.2]))] [] (.bool (fleetB fl)) []:=by
 refine v_con [.tmp 2] [] Tryz.func195 rfl rfl rfl (by simp [Tryz.ntmps195]) ?_
 intro Q0 n0 r0
 simp only [Tryz.ntmps195,envFrom,Nat.reduceAdd]
 have T:=Tys.mk (And.intro Ty.t3 (And.intro Ty.t4 (And.intro Ty.t9 (And.intro Ty.t32 Ty.t96))))
 have F:=Fc.mk True.intro
 refine yR [0] ⟨?_⟩;refine v_seq ?_;intros;refine yR [0,5,6,7] ⟨?_⟩;refine v_block ?_;intro Q4 n4 x4 e4 r4;refine v_loop (fun i=>⟨[(0,.sl (fl.map (fun t:ByteArray×Int×Int×Int×Int=>V.agg [V.str t.1,V.int .i64 t.2.1,V.int .i64 t.2.2.1,V.int .i64 t.2.2.2.1,V.int .i64 t.2.2.2.2]))),(5,.sl (fl.map (fun t:ByteArray×Int×Int×Int×Int=>V.agg [V.str t.1,V.int .i64 t.2.1,V.int .i64 t.2.2.1,V.int .i64 t.2.2.2.1,V.int .i64 t.2.2.2.2]))),(6,.int .i64 fl.length),(7,.int .i64 (Nat.cast i))],[],false,34,0⟩) (fun i=>i≤fl.length∧chainAt apOK apBf fl i=chainAt apOK apBf fl 0) (fun i=>fl.length - i) 0 ?_ ?_ ?_
 ·refine weak_of [0,5,6,7] ?_
  simp only [keep_mk,keepE_nil,keepE_cons,look_cons,look_nil,Nat.reduceEqDiff,reduceIte]
  rfl
 ·exact ⟨Nat.zero_le _,rfl⟩
 ·rintro i hok5 Q5 n5 e5 r5
  obtain ⟨hi1,hR⟩:=hok5
  refine yR [0,5,6,7,8] ⟨?_⟩;refine v_seq ?_;intros;refine v_condS _ rfl ?_ ?_
  ·intro hc0
   have hlt:i < fl.length:=by omega
   obtain ⟨⟨x0,x1,x2,x3,x4⟩,hx⟩:∃x:ByteArray×Int×Int×Int×Int,fl[i]? =some x:=⟨fl[i]'(by omega),List.getElem?_eq_getElem (by omega)⟩
   have hsx:=hls _ (List.mem_of_getElem? hx)
   simp only [] at hsx
   rcases Nat.eq_zero_or_pos i with h0 | h0
   ·skip
    have hi0:¬((0:Int) < (i:Int)):=by omega
    have hst:chainAt apOK apBf fl i=(apOK (x0,x1,x2,x3,x4) && chainAt apOK apBf fl (i+1)):=by subst h0;exact chain_zero hx
    refine zn [0,5,6,7] ⟨?_⟩;refine v_seq ?_;intros;refine v_block ?_;intros
    have F:=Fc.mk (And.intro (fun f=>getD_map (f:=f) hx) (And.intro hi0 (And.intro @decide_false @Bool.and_false)))
    refine yR [0,3,4,5,6,7] ⟨?_⟩;refine v_seq ?_;intro Q12 n12 e12 r12;refine v_draw (by kernel_rfl) ?_;intro K13 q13 k13
    show aAny _ _ _ _ 18 (Array.replicate 18 false) _
    refine zdLoad q13 true 0 12 ?_;refine zoc 1 (isAppliance_con x0 x1 x2 x3 x4 hsx) ⟨?_⟩;refine zdUnOp q13 true 2 14 ?_;refine zdMove q13 true 3 15 ?_;refine zdgMove q13 true 4 16 ?_;refine zdgBinOp q13 true 5 17 ?_;refine zdgMove q13 true 6 18 ?_;refine zdgMove q13 true 7 19 ?_;refine zdgMove q13 true 8 20 ?_;refine zdgBinOpW q13 true 9 21 ?_;refine zdgIndexAddr q13 true 10 22 ?_;refine zdgFieldAddr q13 true 11 23 ?_;refine zdgLoad q13 true 12 24 ?_;refine zdgFieldAddr q13 true 13 25 ?_;refine zdgLoad q13 true 14 26 ?_;refine zdgBinOp q13 true 15 27 ?_;refine zdgPick q13 true 16 28 ?_;refine zdPick q13 true 17 29 ?_;refine aAny_done (by kernel_rfl) ?_;refine k13 _ ?_;refine n12 _ _ (weak_keep [0,5,6,7,29] _) ?_;refine zk ⟨?_⟩;refine v_condS _ rfl ?_ ?_
    ·intro hc1
     refine yR [2] ⟨?_⟩;refine zr ⟨?_⟩
     exact ret_pure rfl (by rw [fleetB,←hR,hst];clear hR hst;(try simp at hc1);first | (simp [hc1];done) | (rcases hc1 with h | h<;>simp [h,apBf];done) | (simp_all [apBf];done)) (.inl rfl)
    ·intro hc1
     refine zn [0,5,6,7] ⟨?_⟩;refine yV ⟨?_⟩;refine n5 _ (i+1) ?_ ?_ ?_
     ·refine weak_bothS [0,5,6,7] [] ⟨?_⟩
      rfl
     ·exact ⟨by omega,by rw [←hR,hst];clear hR hst;(try simp at hc1);first | (simp [hc1];done) | (simp_all [apBf];done)⟩
     ·show _ < _;omega
   ·skip
    obtain ⟨⟨y0,y1,y2,y3,y4⟩,hy⟩:∃x:ByteArray×Int×Int×Int×Int,fl[i - 1]? =some x:=⟨fl[i - 1]'(by omega),List.getElem?_eq_getElem (by omega)⟩
    have hi0:(0:Int) < i:=by omega
    have hk:((i:Int) - 1).toNat=i - 1:=by omega
    have hst:=chain_succ (ok:=apOK) (bf:=apBf) h0 hy hx
    refine zn [0,5,6,7] ⟨?_⟩;refine v_seq ?_;intros;refine v_block ?_;intros
    have F:=Fc.mk (And.intro (fun f=>getD_map (f:=f) hx) (And.intro hi0 (And.intro hk (And.intro (fun f=>getD_map (f:=f) hy) (And.intro @decide_true @Bool.and_true)))))
    refine yR [0,3,4,5,6,7] ⟨?_⟩;refine v_seq ?_;intro Q20 n20 e20 r20;refine v_draw (by kernel_rfl) ?_;intro K21 q21 k21
    show aAny _ _ _ _ 18 (Array.replicate 18 false) _
    refine zdLoad q21 true 0 12 ?_;refine zoc 1 (isAppliance_con x0 x1 x2 x3 x4 hsx) ⟨?_⟩;refine zdUnOp q21 true 2 14 ?_;refine zdMove q21 true 3 15 ?_;refine zdgMove q21 true 4 16 ?_;refine zdgBinOp q21 true 5 17 ?_;refine zdgMove q21 true 6 18 ?_;refine zdgMove q21 true 7 19 ?_;refine zdgMove q21 true 8 20 ?_;refine zdgBinOpW q21 true 9 21 ?_;refine zdgIndexAddr q21 true 10 22 ?_;refine zdgFieldAddr q21 true 11 23 ?_;refine zdgLoad q21 true 12 24 ?_;refine zdgFieldAddr q21 true 13 25 ?_;refine zdgLoad q21 true 14 26 ?_;refine zdgBinOp q21 true 15 27 ?_;refine zdgPick q21 true 16 28 ?_;refine zdPick q21 true 17 29 ?_;refine aAny_done (by kernel_rfl) ?_;refine k21 _ ?_;refine n20 _ _ (weak_keep [0,5,6,7,29] _) ?_;refine zk ⟨?_⟩;refine v_condS _ rfl ?_ ?_
    ·intro hc1
     refine yR [2] ⟨?_⟩;refine zr ⟨?_⟩
     exact ret_pure rfl (by rw [fleetB,←hR,hst];clear hR hst;(try simp at hc1);first | (simp [hc1];done) | (rcases hc1 with h | h<;>simp [h,apBf];done) | (simp_all [apBf];done)) (.inl rfl)
    ·intro hc1
     refine zn [0,5,6,7] ⟨?_⟩;refine yV ⟨?_⟩;refine n5 _ (i+1) ?_ ?_ ?_
     ·refine weak_bothS [0,5,6,7] [] ⟨?_⟩
      rfl
     ·exact ⟨by omega,by rw [←hR,hst];clear hR hst;(try simp at hc1);first | (simp [hc1];done) | (simp_all [apBf];done)⟩
     ·show _ < _;omega
  ·intro hc0
   refine zn [0] ⟨?_⟩;refine yR [2] ⟨?_⟩;refine zr ⟨?_⟩
   exact ret_pure rfl (by rw [fleetB,←hR,chain_end (by omega)];simp) (.inl rfl)
def tmL (n:Int) (ss:List (Int×Int×Int)) (node:Int):List Int:=Tm.times n.toNat ss node.toNat
theorem strOK_facts {n:Int} {x:(Int×Int×Int)} (h1:1≤n∧n≤14) (h:strOK n x=true):0≤x.1∧x.1 < n∧0≤x.2.1∧x.2.1 < n∧x.1 < x.2.1∧1≤x.2.2∧x.2.2≤3600:=by
  simp only [strOK,hasB,Bool.and_eq_true,decide_eq_true_eq,wrap64 (show -9223372036854775808≤n - 1 by omega) (show n - 1≤9223372036854775807 by omega)] at h
  omega
theorem edges_good {m:Nat} {ss:List (Int×Int×Int)} (hm:1≤m∧m≤14) (h:∀s∈ss,strOK (m:Int) s=true):∀e∈Tm.edges ss,Tm.Good m e∧e.2.2≤3600:=by
  intro e he
  obtain ⟨s,hs,he⟩:=Tm.edges_mem he
  have:=strOK_facts (by omega) (h s hs)
  rcases he with rfl | rfl<;>(unfold Tm.Good;simp only [];refine ⟨⟨?_,?_,?_,?_⟩,?_⟩<;>omega)
def fillI (m i:Nat):List Int:=List.replicate i (-1)++List.replicate (m - i) 0
theorem fillI_zero (m:Nat):(fillI m 0).map (V.int .i64)=List.replicate m (V.int .i64 0):=by simp [fillI]
theorem fillI_len {m i:Nat} (h:i≤m):(fillI m i).length=m:=by simp [fillI];omega
theorem fillI_set {m i:Nat} (h:i < m):(fillI m i).set i (-1)=fillI m (i+1):=by
  rw [fillI,List.set_append_right _ _ (by simp),List.length_replicate,Nat.sub_self,show m - i=(m - (i+1))+1 by omega,List.replicate_succ,List.set_cons_zero,fillI,List.replicate_succ',List.append_assoc];rfl
theorem fillI_end {m i:Nat} (h:i=m):fillI m i=List.replicate m (-1):=by subst h;simp [fillI]
theorem times_len (n:Int) (ss:List (Int×Int×Int)) (node:Int):(tmL n ss node).length=n.toNat:=Tm.iter_len (Tm.start_len ..) _
theorem within_times {m u:Nat} {ss:List (Int×Int×Int)}:Tm.within m u (Tm.edges ss) m 0=Tm.times m ss u:=rfl
theorem tm_facts {n node:Int} {ss:List (Int×Int×Int)} (hn:1≤n∧n≤14) (hu:0≤node∧node < n) (hss:∀s∈ss,strOK n s=true) (hsl:ss.length≤40):∀v,-1≤Tm.at_ (tmL n ss node) v∧Tm.at_ (tmL n ss node) v≤4608000:=by
  obtain ⟨m,rfl⟩:=Int.eq_ofNat_of_zero_le (show 0≤n by omega)
  obtain ⟨u,rfl⟩:=Int.eq_ofNat_of_zero_le hu.1
  have h:=Tm.within_facts (n:=m) (node:=u) (es:=Tm.edges ss) (by omega) (edges_good (by omega) hss) (by rw [Tm.edges_len];omega) m 0 (by omega)
  exact h.2
def crewMin (k:Int):Int:=if k=0 then 4 else if k=1 then 2 else if k=2 then 3 else 2
def availB (x:(ByteArray×Int×Int×Int×Int)):Bool:=(decide (x.2.2.2.2=0) || decide (x.2.2.2.2=4)) && decide (crewMin x.2.1≤x.2.2.2.1)
theorem avail_no {x:(ByteArray×Int×Int×Int×Int)} (h0:¬x.2.2.2.2=0) (h4:¬x.2.2.2.2=4):availB x=false:=by rw [availB,decide_eq_false h0,decide_eq_false h4];rfl
theorem avail_yes {x:(ByteArray×Int×Int×Int×Int)} (h:x.2.2.2.2=0∨x.2.2.2.2=4):availB x=decide (crewMin x.2.1≤x.2.2.2.1):=by
  rw [availB]
  rcases h with h | h<;>simp [h]
theorem ap_kind {x:(ByteArray×Int×Int×Int×Int)} (h:apOK x=true):0≤x.2.1∧x.2.1≤3∧0≤x.2.2.1∧x.2.2.1≤13:=by
  simp only [apOK,Bool.and_eq_true,decide_eq_true_eq] at h
  omega
end Go.Proofs.YtaefoaghpehbpaaGreat
