/- What functions compute. No condition. -/
import Derived.Test.YtmhaafinhpopmaaX1
set_option linter.unusedSimpArgs false
set_option linter.unusedVariables false
set_option linter.defProp false
namespace Go.Proofs.Ytmhaafinhpopmaa
open Go Go.Vm
set_option maxHeartbeats 8000000
def hasB (n x:Int):Bool:=decide (0≤x) && decide (x≤IntKind.i64.wrap (n - 1))
def strOK (n:Int) (x:TS):Bool:=hasB n x.1 && hasB n x.2.1 && decide (x.1 < x.2.1) && (decide (1≤x.2.2) && decide (x.2.2≤3600))
def toStr (n:Int) (x:TS):Bool:=hasB n x.1 && hasB n x.2.1 && !decide (x.1=x.2.1) && (decide (1≤x.2.2) && decide (x.2.2≤3600))
def strBf (x y:TS):Bool:=decide (x.1 < y.1) || (decide (x.1=y.1) && decide (x.2.1 < y.2.1))
def townH (n:Int) (ss:List TS):Bool:=(decide (1≤n) && decide (n≤14)) && !decide (40 < (ss.length:Int))
def townB (n:Int) (ss:List TS):Bool:=townH n ss && chainAt (strOK n) strBf ss 0
def cmpSt (x y:TS):Int:=orL [cmpI x.1 y.1,cmpI x.2.1 y.2.1]
theorem cmpSt_bf (x y:TS):decide (0≤cmpSt x y)= !strBf x y:=by
  obtain ⟨x0,x1,x2⟩:=x;obtain ⟨y0,y1,y2⟩:=y;simp only [cmpSt,orL,cmpI,strBf]
  by_cases h1:x0 < y0
  · simp [h1]
  · by_cases h2:y0 < x0
    · have:¬x0=y0:=by omega
      simp [h1,h2,this]
    · have:x0=y0:=by omega
      subst this
      by_cases h3:x1 < y1
      · simp [h3]
      · by_cases h4:y1 < x1
        · simp [h3,h4]
        · simp [h3,h4]
theorem toStr_ok (n:Int) (x:TS):(toStr n x && !decide (x.2.1 < x.1))=strOK n x:=by
  obtain ⟨x0,x1,x2⟩:=x;simp only [toStr,strOK]
  by_cases h:x0 < x1
  · have h1:¬x0=x1:=by omega
    have h2:¬x1 < x0:=by omega
    simp [h,h1,h2]
  · by_cases h1:x0=x1
    · simp [h1]
    · have h2:x1 < x0:=by omega
      simp [h,h2]
theorem toStr_or (n:Int) (x:TS):(!toStr n x || decide (x.2.1 < x.1))= !strOK n x:=by
  rw [←toStr_ok];cases toStr n x<;>cases decide (x.2.1 < x.1)<;>rfl
theorem tHas_con (n:Int) (ss:List TS) (x:Int):Con Try.prog 30 [.pv [.agg [.int .i64 n,.sl (ss.map (fun t:TS=>V.agg [V.int .i64 t.1,V.int .i64 t.2.1,V.int .i64 t.2.2]))]] 0 0,.int .i64 x] [] (.bool (hasB n x)) []:=by
 refine v_con [.tmp 4] [] Try.func30 rfl rfl rfl (by simp [Try.ntmps30]) ?_;intro Q0 n0 r0;simp only [Try.ntmps30,envFrom,Nat.reduceAdd];have T:=Tys.mk (ai Ty.t3 (ai Ty.t4 (ai Ty.t32 (ai Ty.t34 Ty.t79))));have F:=Fc.mk True.intro;refine yR [0,1] ⟨?_⟩;refine yRc [4] (inside_con _ _ _) ⟨?_⟩;refine zr ⟨?_⟩;exact ret_pure rfl rfl (.inl rfl)
theorem tFits_con (n:Int) (ss:List TS) (x0:Int) (x1:Int) (x2:Int):Con Try.prog 63 [.pv [.agg [.int .i64 n,.sl (ss.map (fun t:TS=>V.agg [V.int .i64 t.1,V.int .i64 t.2.1,V.int .i64 t.2.2]))]] 0 0,.agg [V.int .i64 x0,V.int .i64 x1,V.int .i64 x2]] [] (.bool (strOK n (x0,x1,x2))) []:=by
 refine v_con [.tmp 4] [] Try.func63 rfl rfl rfl (by simp [Try.ntmps63]) ?_;intro Q0 n0 r0;simp only [Try.ntmps63,envFrom,Nat.reduceAdd];have T:=Tys.mk (ai Ty.t3 (ai Ty.t4 (ai Ty.t32 (ai Ty.t34 (ai Ty.t63 Ty.t79)))));have F:=Fc.mk True.intro;refine yR [0,3] ⟨?_⟩;refine yRcgg [4] (tHas_con n ss x0) (tHas_con n ss x1) (inside_con _ _ _) ⟨?_⟩;refine zr ⟨?_⟩;exact ret_pure rfl (by simp [strOK]) (.inl rfl)
theorem cmpStreets_con (x0:Int) (x1:Int) (x2:Int) (y0:Int) (y1:Int) (y2:Int):Con Try.prog 64 [.agg [V.int .i64 x0,V.int .i64 x1,V.int .i64 x2],.agg [V.int .i64 y0,V.int .i64 y1,V.int .i64 y2]] [] (.int .i64 (cmpSt (x0,x1,x2) (y0,y1,y2))) []:=by
 refine v_con [.tmp 4] [] Try.func64 rfl rfl rfl (by simp [Try.ntmps64]) ?_;intro Q0 n0 r0;simp only [Try.ntmps64,envFrom,Nat.reduceAdd];have T:=Tys.mk (ai Ty.t3 (ai Ty.t26 Ty.t79));have F:=Fc.mk True.intro;refine yR [2,3] ⟨?_⟩;refine v_seq ?_;intro Q2 n2 e2 r2;refine v_draw (by kernel_rfl) ?_;intro K3 q3 k3;show aAny _ _ _ _ 13 (Array.replicate 13 false) _;refine zdFieldAddr q3 true 0 5 ?_;refine zdLoad q3 true 1 6 ?_;refine zdFieldAddr q3 true 2 7 ?_;refine zdLoad q3 true 3 8 ?_;refine zdFieldAddr q3 true 5 10 ?_;refine zdLoad q3 true 6 11 ?_;refine zdFieldAddr q3 true 7 12 ?_;refine zdLoad q3 true 8 13 ?_;refine zoc 4 (cmpInt_con x0 y0) ⟨?_⟩;refine zoc 9 (cmpInt_con x1 y1) ⟨?_⟩;refine zoBuildSlice 10 ⟨?_⟩;refine zoc 11 (cmpOr_con [cmpI x0 y0,cmpI x1 y1] (by simp)) ⟨?_⟩;refine zoAssign 12 ⟨?_⟩;refine aAny_done (by kernel_rfl) ?_;refine k3 _ ?_;refine n2 _ _ (weak_keep [4] _) ?_;refine zq1 ⟨?_⟩;exact ret_pure rfl rfl (.inl rfl)
theorem toStreetB_con (x0:Int) (x1:Int) (x2:Int) (n:Int):Con Try.prog 68 [.agg [V.int .i64 x0,V.int .i64 x1,V.int .i64 x2],.int .i64 n] [] (.bool (toStr n (x0,x1,x2))) []:=by
 refine v_con [.tmp 4] [] Try.func68 rfl rfl rfl (by simp [Try.ntmps68]) ?_;intro Q0 n0 r0;simp only [Try.ntmps68,envFrom,Nat.reduceAdd];have T:=Tys.mk (ai Ty.t3 (ai Ty.t4 Ty.t79));have F:=Fc.mk True.intro;refine yR [1,2] ⟨?_⟩;refine yRcgg [4] (l1In_con _ _ _) (l1In_con _ _ _) (l1In_con _ _ _) ⟨?_⟩;refine zr ⟨?_⟩;exact ret_pure rfl (by simp [toStr,hasB]) (.inl rfl)
theorem toBefore_con (x0:Int) (x1:Int) (x2:Int) (y0:Int) (y1:Int) (y2:Int):Con Try.prog 69 [.agg [V.int .i64 x0,V.int .i64 x1,V.int .i64 x2],.agg [V.int .i64 y0,V.int .i64 y1,V.int .i64 y2]] [] (.bool (strBf (x0,x1,x2) (y0,y1,y2))) []:=by
 refine v_con [.tmp 4] [] Try.func69 rfl rfl rfl (by simp [Try.ntmps69]) ?_;intro Q0 n0 r0;simp only [Try.ntmps69,envFrom,Nat.reduceAdd];have T:=Tys.mk (ai Ty.t3 Ty.t79);have F:=Fc.mk True.intro;refine yR [2,3] ⟨?_⟩;refine yR [4] ⟨?_⟩;refine zr ⟨?_⟩;exact ret_pure rfl (by simp [strBf]) (.inl rfl)
set_option maxRecDepth 8000 in
theorem isTown_con (n:Int) (ss:List TS) (hs:ss.length≤1048576):Con Try.prog 49 [.pv [.agg [.int .i64 n,.sl (ss.map (fun t:TS=>V.agg [V.int .i64 t.1,V.int .i64 t.2.1,V.int .i64 t.2.2]))]] 0 0] [] (.bool (townB n ss)) []:=by
 refine v_con [.tmp 2] [] Try.func49 rfl rfl rfl (by simp [Try.ntmps49]) ?_;intro Q0 n0 r0;simp only [Try.ntmps49,envFrom,Nat.reduceAdd];have T:=Tys.mk (ai Ty.t3 (ai Ty.t4 (ai Ty.t32 (ai Ty.t34 (ai Ty.t63 Ty.t79)))));have F:=Fc.mk True.intro;refine yR [0] ⟨?_⟩;refine v_seq ?_;intros;refine yRc [0,18] (inside_con _ _ _) ⟨?_⟩;refine v_condS _ rfl ?_ ?_
 ·intro hc0;have hh:townH n ss=false:=by cases hq:townH n ss with | false=>rfl | true=>(exfalso;simp [townH] at hq;(try simp at hc0);omega)
  refine yR [2] ⟨?_⟩;refine zr ⟨?_⟩;exact ret_pure rfl (by rw [townB,hh];rfl) (.inl rfl)
 ·intro hc0;have hh:townH n ss=true:=by simp only [townH,Bool.and_eq_true,Bool.not_eq_true',decide_eq_true_eq,decide_eq_false_iff_not];(try simp at hc0);omega
  refine zn [0] ⟨?_⟩;refine v_seq ?_;intros;refine yR [0,22,23,24] ⟨?_⟩;refine v_block ?_;intros;refine v_loop (fun i=>⟨[(0,.pv [.agg [.int .i64 n,.sl (ss.map (fun t:TS=>V.agg [V.int .i64 t.1,V.int .i64 t.2.1,V.int .i64 t.2.2]))]] 0 0),(22,.sl (ss.map (fun t:TS=>V.agg [V.int .i64 t.1,V.int .i64 t.2.1,V.int .i64 t.2.2]))),(23,.int .i64 ss.length),(24,.int .i64 (Nat.cast i))],[],false,51,0⟩) (fun i=>i≤ss.length∧chainAt (strOK n) strBf ss i=chainAt (strOK n) strBf ss 0) (fun i=>ss.length - i) 0 ?_ ?_ ?_
  ·refine weak_bothS [0,22,23,24] [] ⟨?_⟩;rfl
  ·exact ⟨qlg _,rfl⟩
  ·rintro i hok9 Q9 n9 e9 r9;obtain ⟨hi1,hR⟩:=hok9;refine yR [0,22,23,24,25] ⟨?_⟩;refine v_seq ?_;intros;refine v_condS _ rfl ?_ ?_
   ·intro hc1;have hlt:i < ss.length:=by omega
    obtain ⟨⟨x0,x1,x2⟩,hx⟩:∃x:TS,ss[i]? =some x:=⟨ss[i]'(by omega),qla (by omega)⟩;rcases Nat.eq_zero_or_pos i with h0 | h0
    ·skip;have y0:Int:=0;have y1:Int:=0;have y2:Int:=0;have hi0:¬((0:Int) < (i:Int)):=by omega
     have hst:chainAt (strOK n) strBf ss i=(strOK n (x0,x1,x2) && chainAt (strOK n) strBf ss (i+1)):=by subst h0;exact chain_zero hx
     have hts:=toStr_or n (x0,x1,x2);simp only [] at hts;refine zn [0,22,23,24] ⟨?_⟩;refine v_seq ?_;intros;refine v_block ?_;intros;have F:=Fc.mk (ai (gdm hx) (ai hi0 (ai @decide_false (ai @Bool.and_false hts))));refine yR [0,3,4,22,23,24] ⟨?_⟩;refine v_seq ?_;intro Q16 n16 e16 r16;refine v_draw (by kernel_rfl) ?_;intro K17 q17 k17;show aAny _ _ _ _ 21 (Array.replicate 21 false) _;refine zdMove q17 true 0 29 ?_;refine zdLoad q17 true 1 30 ?_;refine zoc 2 (tFits_con n ss x0 x1 x2) ⟨?_⟩;refine zdUnOp q17 true 3 32 ?_;refine zdMove q17 true 4 33 ?_;refine zdgMove q17 true 5 34 ?_;refine zdgBinOp q17 true 6 35 ?_;refine zdgMove q17 true 7 36 ?_;refine zdgMove q17 true 8 37 ?_;refine zdgNilCheck q17 true 9 38 ?_;refine zdgFieldAddr q17 true 10 39 ?_;refine zdgLoad q17 true 11 40 ?_;refine zdgMove q17 true 12 41 ?_;refine zdgBinOpW q17 true 13 42 ?_;refine zdgIndexAddr q17 true 14 43 ?_;refine zdgLoad q17 true 15 44 ?_;refine zdgLoad q17 true 16 45 ?_;first
     |refine zogc 17 (cmpStreets_con y0 y1 y2 x0 x1 x2) ⟨?_⟩
     |(refine aAny_pass 17 46 7 true rfl rfl (show 46 < 51 by decide) (by kernel_rfl) rfl ?_ ?_;(focus first | rfl | (simp only [zV,guardV,Nat.reduceEqDiff,reduceIte];done));simp only [zW,set_some,Nat.reduceEqDiff,reduceIte])
     refine zdgBinOp q17 true 18 47 ?_;refine zdgPick q17 true 19 48 ?_;refine zdPick q17 true 20 49 ?_;refine aAny_done (by kernel_rfl) ?_;refine k17 _ ?_;refine n16 _ _ (weak_keep [0,22,23,24,49] _) ?_;refine zk ⟨?_⟩;refine v_condS _ rfl ?_ ?_
     ·intro hc2;refine yR [2] ⟨?_⟩;refine zr ⟨?_⟩;exact ret_pure rfl (by rw [townB,hh,←hR,hst];(try simp at hc2);first | (simp [hc2];done) | (rcases hc2 with h | h<;>simp [h];done) | (simp_all;done)) (.inl rfl)
     ·intro hc2;refine zn [0,22,23,24] ⟨?_⟩;refine yV ⟨?_⟩;refine n9 _ (i+1) ?_ ?_ ?_
      ·refine weak_bothS [0,22,23,24] [] ⟨?_⟩;rfl
      ·exact ⟨by omega,by rw [←hR,hst];(try simp at hc2);first | (simp [hc2];done) | (simp_all;done)⟩
      ·show _ < _;omega
    ·skip;obtain ⟨⟨y0,y1,y2⟩,hy⟩:∃x:TS,ss[i - 1]? =some x:=⟨ss[i - 1]'(by omega),qla (by omega)⟩;have hi0:(0:Int) < i:=by omega
     have hk:((i:Int) - 1).toNat=i - 1:=by omega
     have hst:=chain_succ (ok:=strOK n) (bf:=strBf) h0 hy hx;have hcb:=cmpSt_bf (y0,y1,y2) (x0,x1,x2);have hts:=toStr_or n (x0,x1,x2);simp only [] at hts;refine zn [0,22,23,24] ⟨?_⟩;refine v_seq ?_;intros;refine v_block ?_;intros;have F:=Fc.mk (ai (gdm hx) (ai hi0 (ai hk (ai (gdm hy) (ai @decide_true (ai @Bool.and_true (ai hcb hts)))))));refine yR [0,3,4,22,23,24] ⟨?_⟩;refine v_seq ?_;intro Q24 n24 e24 r24;refine v_draw (by kernel_rfl) ?_;intro K25 q25 k25;show aAny _ _ _ _ 21 (Array.replicate 21 false) _;refine zdMove q25 true 0 29 ?_;refine zdLoad q25 true 1 30 ?_;refine zoc 2 (tFits_con n ss x0 x1 x2) ⟨?_⟩;refine zdUnOp q25 true 3 32 ?_;refine zdMove q25 true 4 33 ?_;refine zdgMove q25 true 5 34 ?_;refine zdgBinOp q25 true 6 35 ?_;refine zdgMove q25 true 7 36 ?_;refine zdgMove q25 true 8 37 ?_;refine zdgNilCheck q25 true 9 38 ?_;refine zdgFieldAddr q25 true 10 39 ?_;refine zdgLoad q25 true 11 40 ?_;refine zdgMove q25 true 12 41 ?_;refine zdgBinOpW q25 true 13 42 ?_;refine zdgIndexAddr q25 true 14 43 ?_;refine zdgLoad q25 true 15 44 ?_;refine zdgLoad q25 true 16 45 ?_;first
     |refine zogc 17 (cmpStreets_con y0 y1 y2 x0 x1 x2) ⟨?_⟩
     |(refine aAny_pass 17 46 7 true rfl rfl (show 46 < 51 by decide) (by kernel_rfl) rfl ?_ ?_;(focus first | rfl | (simp only [zV,guardV,Nat.reduceEqDiff,reduceIte];done));simp only [zW,set_some,Nat.reduceEqDiff,reduceIte])
     refine zdgBinOp q25 true 18 47 ?_;refine zdgPick q25 true 19 48 ?_;refine zdPick q25 true 20 49 ?_;refine aAny_done (by kernel_rfl) ?_;refine k25 _ ?_;refine n24 _ _ (weak_keep [0,22,23,24,49] _) ?_;refine zk ⟨?_⟩;refine v_condS _ rfl ?_ ?_
     ·intro hc2;refine yR [2] ⟨?_⟩;refine zr ⟨?_⟩;exact ret_pure rfl (by rw [townB,hh,←hR,hst];(try simp at hc2);first | (simp [hc2];done) | (rcases hc2 with h | h<;>simp [h];done) | (simp_all;done)) (.inl rfl)
     ·intro hc2;refine zn [0,22,23,24] ⟨?_⟩;refine yV ⟨?_⟩;refine n9 _ (i+1) ?_ ?_ ?_
      ·refine weak_bothS [0,22,23,24] [] ⟨?_⟩;rfl
      ·exact ⟨by omega,by rw [←hR,hst];(try simp at hc2);first | (simp [hc2];done) | (simp_all;done)⟩
      ·show _ < _;omega
   ·intro hc1;refine zn [] ⟨?_⟩;refine yR [2] ⟨?_⟩;refine zr ⟨?_⟩;exact ret_pure rfl (by rw [townB,hh,←hR,chain_end (by omega)];rfl) (.inl rfl)
set_option maxRecDepth 8000 in
theorem toGood_con (n:Int) (ss:List TS) (hs:ss.length≤1048576):Con Try.prog 61 [.agg [.int .i64 n,.sl (ss.map (fun t:TS=>V.agg [V.int .i64 t.1,V.int .i64 t.2.1,V.int .i64 t.2.2]))]] [] (.bool (townB n ss)) []:=by
 refine v_con [.tmp 2] [] Try.func61 rfl rfl rfl (by simp [Try.ntmps61]) ?_;intro Q0 n0 r0;simp only [Try.ntmps61,envFrom,Nat.reduceAdd];have T:=Tys.mk (ai Ty.t3 (ai Ty.t4 (ai Ty.t32 (ai Ty.t34 Ty.t79))));have F:=Fc.mk True.intro;refine yR [1] ⟨?_⟩;refine v_seq ?_;intros;refine yRc [1,14] (l1In_con _ _ _) ⟨?_⟩;refine v_condS _ rfl ?_ ?_
 ·intro hc0;have hh:townH n ss=false:=by cases hq:townH n ss with | false=>rfl | true=>(exfalso;simp [townH] at hq;(try simp at hc0);omega)
  refine yR [2] ⟨?_⟩;refine zr ⟨?_⟩;exact ret_pure rfl (by rw [townB,hh];rfl) (.inl rfl)
 ·intro hc0;have hh:townH n ss=true:=by simp only [townH,Bool.and_eq_true,Bool.not_eq_true',decide_eq_true_eq,decide_eq_false_iff_not];(try simp at hc0);omega
  refine zn [1] ⟨?_⟩;refine v_seq ?_;intros;refine yR [1,16,17,18] ⟨?_⟩;refine v_block ?_;intros;refine v_loop (fun i=>⟨[(1,.ptr 0 0 0),(16,.sl (ss.map (fun t:TS=>V.agg [V.int .i64 t.1,V.int .i64 t.2.1,V.int .i64 t.2.2]))),(17,.int .i64 ss.length),(18,.int .i64 (Nat.cast i))],[.box (.agg [.int .i64 n,.sl (ss.map (fun t:TS=>V.agg [V.int .i64 t.1,V.int .i64 t.2.1,V.int .i64 t.2.2]))]) .shal],false,51,0⟩) (fun i=>i≤ss.length∧chainAt (strOK n) strBf ss i=chainAt (strOK n) strBf ss 0) (fun i=>ss.length - i) 0 ?_ ?_ ?_
  ·refine weak_bothS [1,16,17,18] [0] ⟨?_⟩;rfl
  ·exact ⟨qlg _,rfl⟩
  ·rintro i hok9 Q9 n9 e9 r9;obtain ⟨hi1,hR⟩:=hok9;refine yR [1,16,17,18,19] ⟨?_⟩;refine v_seq ?_;intros;refine v_condS _ rfl ?_ ?_
   ·intro hc1;have hlt:i < ss.length:=by omega
    obtain ⟨⟨x0,x1,x2⟩,hx⟩:∃x:TS,ss[i]? =some x:=⟨ss[i]'(by omega),qla (by omega)⟩;rcases Nat.eq_zero_or_pos i with h0 | h0
    ·skip;have y0:Int:=0;have y1:Int:=0;have y2:Int:=0;have hi0:¬((0:Int) < (i:Int)):=by omega
     have hst:chainAt (strOK n) strBf ss i=(strOK n (x0,x1,x2) && chainAt (strOK n) strBf ss (i+1)):=by subst h0;exact chain_zero hx
     have hts:=toStr_or n (x0,x1,x2);simp only [] at hts;refine zn [1,16,17,18] ⟨?_⟩;refine v_seq ?_;intros;refine v_block ?_;intros;have F:=Fc.mk (ai (gdm hx) (ai hi0 (ai @decide_false (ai @Bool.and_false hts))));refine yR [1,3,4,16,17,18] ⟨?_⟩;refine v_seq ?_;intro Q16 n16 e16 r16;refine v_draw (by kernel_rfl) ?_;intro K17 q17 k17;show aAny _ _ _ _ 27 (Array.replicate 27 false) _;refine zdLoad q17 true 0 23 ?_;refine zdFieldAddr q17 true 1 24 ?_;refine zdLoad q17 true 2 25 ?_;refine zoc 3 (toStreetB_con x0 x1 x2 n) ⟨?_⟩;refine zdUnOp q17 true 4 27 ?_;refine zdMove q17 true 5 28 ?_;refine zdgFieldAddr q17 true 6 29 ?_;refine zdgLoad q17 true 7 30 ?_;refine zdgFieldAddr q17 true 8 31 ?_;refine zdgLoad q17 true 9 32 ?_;refine zdgBinOp q17 true 10 33 ?_;refine zdPick q17 true 11 34 ?_;refine zdMove q17 true 12 35 ?_;refine zdgMove q17 true 13 36 ?_;refine zdgBinOp q17 true 14 37 ?_;refine zdgMove q17 true 15 38 ?_;refine zdgFieldAddr q17 true 16 39 ?_;refine zdgLoad q17 true 17 40 ?_;refine zdgMove q17 true 18 41 ?_;refine zdgBinOpW q17 true 19 42 ?_;refine zdgIndexAddr q17 true 20 43 ?_;refine zdgLoad q17 true 21 44 ?_;refine zdgLoad q17 true 22 45 ?_;first
     |refine zogc 23 (toBefore_con y0 y1 y2 x0 x1 x2) ⟨?_⟩
     |(refine aAny_pass 23 46 15 true rfl rfl (show 46 < 51 by decide) (by kernel_rfl) rfl ?_ ?_;(focus first | rfl | (simp only [zV,guardV,Nat.reduceEqDiff,reduceIte];done));simp only [zW,set_some,Nat.reduceEqDiff,reduceIte])
     refine zdgUnOp q17 true 24 47 ?_;refine zdgPick q17 true 25 48 ?_;refine zdPick q17 true 26 49 ?_;refine aAny_done (by kernel_rfl) ?_;refine k17 _ ?_;refine n16 _ _ (weak_keep [1,16,17,18,49] _) ?_;refine zk ⟨?_⟩;refine v_condS _ rfl ?_ ?_
     ·intro hc2;refine yR [2] ⟨?_⟩;refine zr ⟨?_⟩;exact ret_pure rfl (by rw [townB,hh,←hR,hst];(try simp at hc2);first | (simp [hc2];done) | (rcases hc2 with h | h<;>simp [h];done) | (simp_all;done)) (.inl rfl)
     ·intro hc2;refine zn [1,16,17,18] ⟨?_⟩;refine yV ⟨?_⟩;refine n9 _ (i+1) ?_ ?_ ?_
      ·refine weak_bothS [1,16,17,18] [0] ⟨?_⟩;rfl
      ·exact ⟨by omega,by rw [←hR,hst];(try simp at hc2);first | (simp [hc2];done) | (simp_all;done)⟩
      ·show _ < _;omega
    ·skip;obtain ⟨⟨y0,y1,y2⟩,hy⟩:∃x:TS,ss[i - 1]? =some x:=⟨ss[i - 1]'(by omega),qla (by omega)⟩;have hi0:(0:Int) < i:=by omega
     have hk:((i:Int) - 1).toNat=i - 1:=by omega
     have hst:=chain_succ (ok:=strOK n) (bf:=strBf) h0 hy hx;have hcb:=cmpSt_bf (y0,y1,y2) (x0,x1,x2);have hts:=toStr_or n (x0,x1,x2);simp only [] at hts;refine zn [1,16,17,18] ⟨?_⟩;refine v_seq ?_;intros;refine v_block ?_;intros;have F:=Fc.mk (ai (gdm hx) (ai hi0 (ai hk (ai (gdm hy) (ai @decide_true (ai @Bool.and_true (ai hcb hts)))))));refine yR [1,3,4,16,17,18] ⟨?_⟩;refine v_seq ?_;intro Q24 n24 e24 r24;refine v_draw (by kernel_rfl) ?_;intro K25 q25 k25;show aAny _ _ _ _ 27 (Array.replicate 27 false) _;refine zdLoad q25 true 0 23 ?_;refine zdFieldAddr q25 true 1 24 ?_;refine zdLoad q25 true 2 25 ?_;refine zoc 3 (toStreetB_con x0 x1 x2 n) ⟨?_⟩;refine zdUnOp q25 true 4 27 ?_;refine zdMove q25 true 5 28 ?_;refine zdgFieldAddr q25 true 6 29 ?_;refine zdgLoad q25 true 7 30 ?_;refine zdgFieldAddr q25 true 8 31 ?_;refine zdgLoad q25 true 9 32 ?_;refine zdgBinOp q25 true 10 33 ?_;refine zdPick q25 true 11 34 ?_;refine zdMove q25 true 12 35 ?_;refine zdgMove q25 true 13 36 ?_;refine zdgBinOp q25 true 14 37 ?_;refine zdgMove q25 true 15 38 ?_;refine zdgFieldAddr q25 true 16 39 ?_;refine zdgLoad q25 true 17 40 ?_;refine zdgMove q25 true 18 41 ?_;refine zdgBinOpW q25 true 19 42 ?_;refine zdgIndexAddr q25 true 20 43 ?_;refine zdgLoad q25 true 21 44 ?_;refine zdgLoad q25 true 22 45 ?_;first
     |refine zogc 23 (toBefore_con y0 y1 y2 x0 x1 x2) ⟨?_⟩
     |(refine aAny_pass 23 46 15 true rfl rfl (show 46 < 51 by decide) (by kernel_rfl) rfl ?_ ?_;(focus first | rfl | (simp only [zV,guardV,Nat.reduceEqDiff,reduceIte];done));simp only [zW,set_some,Nat.reduceEqDiff,reduceIte])
     refine zdgUnOp q25 true 24 47 ?_;refine zdgPick q25 true 25 48 ?_;refine zdPick q25 true 26 49 ?_;refine aAny_done (by kernel_rfl) ?_;refine k25 _ ?_;refine n24 _ _ (weak_keep [1,16,17,18,49] _) ?_;refine zk ⟨?_⟩;refine v_condS _ rfl ?_ ?_
     ·intro hc2;refine yR [2] ⟨?_⟩;refine zr ⟨?_⟩;exact ret_pure rfl (by rw [townB,hh,←hR,hst];(try simp at hc2);first | (simp [hc2];done) | (rcases hc2 with h | h<;>simp [h];done) | (simp_all;done)) (.inl rfl)
     ·intro hc2;refine zn [1,16,17,18] ⟨?_⟩;refine yV ⟨?_⟩;refine n9 _ (i+1) ?_ ?_ ?_
      ·refine weak_bothS [1,16,17,18] [0] ⟨?_⟩;rfl
      ·exact ⟨by omega,by rw [←hR,hst];(try simp at hc2);first | (simp [hc2];done) | (simp_all;done)⟩
      ·show _ < _;omega
   ·intro hc1;refine zn [] ⟨?_⟩;refine yR [2] ⟨?_⟩;refine zr ⟨?_⟩;exact ret_pure rfl (by rw [townB,hh,←hR,chain_end (by omega)];rfl) (.inl rfl)
theorem toNode_con (n:Int) (ss:List TS) (x:Int) (hs:ss.length≤1048576):Con Try.prog 42 [.agg [.int .i64 n,.sl (ss.map (fun t:TS=>V.agg [V.int .i64 t.1,V.int .i64 t.2.1,V.int .i64 t.2.2]))],.int .i64 x] [] (.bool (townB n ss && hasB n x)) []:=by
 refine v_con [.tmp 4] [] Try.func42 rfl rfl rfl (by simp [Try.ntmps42]) ?_;intro Q0 n0 r0;simp only [Try.ntmps42,envFrom,Nat.reduceAdd];have T:=Tys.mk (ai Ty.t3 (ai Ty.t4 (ai Ty.t32 (ai Ty.t34 Ty.t79))));have F:=Fc.mk True.intro;refine yR [1,2] ⟨?_⟩;refine yRcg [4] (toGood_con n ss hs) (l1In_con _ _ _) ⟨?_⟩;refine zr ⟨?_⟩;exact ret_pure rfl (by simp [hasB]) (.inl rfl)
theorem wrapU {n:Int} (h0:0≤n) (h:n < 18446744073709551616):IntKind.u64.wrap n=n:=by
  simp [IntKind.wrap,IntKind.signed,IntKind.bits];omega
theorem andMask {n:Int} (h0:0≤n) (h:n < 4294967296):IntKind.u64.wrap ((BitVec.ofInt IntKind.u64.bits n &&& BitVec.ofInt IntKind.u64.bits 4294967295).toNat:Int)=n:=by
  obtain ⟨m,rfl⟩:=qln h0;have e:(BitVec.ofInt IntKind.u64.bits (m:Int) &&& BitVec.ofInt IntKind.u64.bits 4294967295).toNat=m:=by
    show (BitVec.ofInt 64 (m:Int) &&& BitVec.ofInt 64 4294967295).toNat=m;rw [BitVec.toNat_and];have h1:(BitVec.ofInt 64 (m:Int)).toNat=m:=by simp [BitVec.toNat_ofInt];omega
    have h2:(BitVec.ofInt 64 4294967295).toNat=2 ^ 32 - 1:=by decide
    rw [h1,h2,Nat.and_two_pow_sub_one_eq_mod];omega
  rw [e,wrapU (by omega) (by omega)]
theorem shr32 {n:Int} (h0:0≤n) (h:n < 4294967296):n.fdiv (2 ^ min (Int.toNat 32) IntKind.u64.bits)=0:=by
  have:min (Int.toNat 32) IntKind.u64.bits=32:=by decide
  rw [this,Int.fdiv_eq_ediv_of_nonneg _ (by decide)];omega
theorem mul64_con (n:Int) (h0:0≤n) (hn:n≤1048576):Con Try.prog 81 [.int .u64 1,.int .u64 n] [] (.tup [.int .u64 0,.int .u64 n]) []:=by
 have a1:=andMask (n:=1) (by omega) (by omega);have a0:=andMask (n:=0) (by omega) (by omega);have an:=andMask (n:=n) (by omega) (by omega);have s1:=shr32 (n:=1) (by omega) (by omega);have s0:=shr32 (n:=0) (by omega) (by omega);have sn:=shr32 (n:=n) (by omega) (by omega);have m1:IntKind.u64.wrap (1 * n)=n:=by rw [Int.one_mul];exact wrapU (by omega) (by omega)
 have m2:IntKind.u64.wrap (0 * n)=0:=by rw [Int.zero_mul];rfl
 have m3:IntKind.u64.wrap (0+0)=0:=rfl;have m4:IntKind.u64.wrap (1 * 0)=0:=rfl;have m5:IntKind.u64.wrap (0 * 0)=0:=rfl;refine v_con [.tmp 4,.tmp 5] [] Try.func81 rfl rfl rfl (by simp [Try.ntmps81]) ?_;intro Q0 n0 r0;simp only [Try.ntmps81,envFrom,Nat.reduceAdd];have T:=Tys.mk Ty.t104;have F:=Fc.mk True.intro;have F:=Fc.mk (ai a1 (ai a0 (ai an (ai s1 (ai s0 (ai sn (ai m1 (ai m2 (ai m3 (ai m4 m5))))))))));refine yR [0,1] ⟨?_⟩;refine yR [0,1,6] ⟨?_⟩;refine yR [0,1,6,7] ⟨?_⟩;refine yR [0,1,6,7,8] ⟨?_⟩;refine yR [0,1,6,7,8,9] ⟨?_⟩;refine yR [0,1,6,7,8,9,10] ⟨?_⟩;refine yR [0,1,6,7,9,11] ⟨?_⟩;refine yR [0,1,6,7,9,11,12] ⟨?_⟩;refine yR [0,1,6,7,9,12,13] ⟨?_⟩;refine yR [0,1,7,9,12,13] ⟨?_⟩;refine yR [0,1,4] ⟨?_⟩;refine yR [4,5] ⟨?_⟩;refine zr ⟨?_⟩;exact ret_pure rfl rfl (.inl rfl)
theorem mulU_con (n:Int) (h0:0≤n) (hn:n≤1048576):Con Try.prog 75 [.int .u64 1,.int .u64 n] [] (.tup [.int .u64 0,.int .u64 n]) []:=by
 refine v_con [.tmp 4,.tmp 5] [] Try.func75 rfl rfl rfl (by simp [Try.ntmps75]) ?_;intro Q0 n0 r0;simp only [Try.ntmps75,envFrom,Nat.reduceAdd];have T:=Tys.mk Ty.t104;have F:=Fc.mk True.intro;refine yR [0,1] ⟨?_⟩;refine v_seq ?_;intros;refine v_cond _ rfl ?_ ?_
 ·intro hc0;exfalso;cases hc0
 ·intro hc0;try simp only [zC,reduceCtorEq] at hc0
  refine zn [0,1] ⟨?_⟩;refine yRc [8,9] (mul64_con n h0 hn) ⟨?_⟩;refine yR [4,5] ⟨?_⟩;refine zr ⟨?_⟩;exact ret_pure rfl rfl (.inl rfl)
def repTo (c:Int) (N m:Nat):List V:=List.replicate m (V.int .i64 c)++List.replicate (N - m) (V.int .i64 0)
theorem repTo_len {c:Int} {N m:Nat} (h:m≤N):(repTo c N m).length=N:=by simp [repTo];omega
theorem repTo_cells {c:Int} {N m:Nat}:∀x∈repTo c N m,x.cells.length=1:=by
  intro x hx;rw [repTo,qll] at hx;rcases hx with h | h<;>rw [List.eq_of_mem_replicate h]<;>rfl
theorem repTo_step {c:Int} {N m k:Nat} (h:m≤N) (hk:k=min m (N - m)):(repTo c N m).take m++((repTo c N m).take m).take k++(repTo c N m).drop (m+k)=repTo c N (m+k):=by
  have h1:(repTo c N m).take m=List.replicate m (V.int .i64 c):=by rw [repTo,List.take_left' (by simp)]
  have h2:(repTo c N m).drop (m+k)=List.replicate (N - (m+k)) (V.int .i64 0):=by
    rw [repTo,List.drop_append,qle (by simp),List.length_replicate,List.nil_append,List.drop_replicate]
    congr 1;omega
  rw [h1,h2,List.take_replicate,List.replicate_append_replicate,repTo]
  congr 3;omega
theorem repeat_con (c:Int) (N:Nat) (h1:1≤N) (hN:N≤1048576):Con Try.prog 67 [.sl [.int .i64 c],.int .i64 N] [] (.ref 0) [.arr ((List.replicate N c).map (V.int .i64)) .flat]:=by
 have u1:IntKind.u64.wrap 1=1:=rfl;have un:IntKind.u64.wrap (N:Int)=N:=wrapU (by omega) (by omega);have wn:IntKind.i64.wrap (N:Int)=N:=by simp (disch:=omega) only [wrap64]
 refine v_con [.tmp 4] [] Try.func67 rfl rfl rfl (by simp [Try.ntmps67]) ?_;intro Q0 n0 r0;simp only [Try.ntmps67,envFrom,Nat.reduceAdd];have T:=Tys.mk (ai Ty.t3 (ai Ty.t26 Ty.t104));have F:=Fc.mk True.intro;have F:=Fc.mk (ai u1 (ai un wn));refine yR [0,1] ⟨?_⟩;refine v_seq ?_;intros;refine yR [0,1,10] ⟨?_⟩;refine v_cond _ rfl ?_ ?_
 ·intro hc0;exfalso;simp at hc0;omega
 ·intro hc0;try simp only [zC,reduceCtorEq] at hc0
  refine zn [0,1] ⟨?_⟩;refine yRc [0,5,6] (mulU_con (N:Int) (by omega) (by omega)) ⟨?_⟩;refine v_seq ?_;intros;refine yR [0,6,26] ⟨?_⟩;refine v_cond _ rfl ?_ ?_
  ·intro hc1;exfalso;simp at hc1;omega
  ·intro hc1;try simp only [zC,reduceCtorEq] at hc1
   refine zn [0,6] ⟨?_⟩;refine yR [0,7] ⟨?_⟩;refine yR [7,8] ⟨?_⟩;refine v_seq ?_;intros;refine v_block ?_;intros;refine v_loop (fun m=>⟨[(7,.ref 0),(8,.int .i64 (Nat.cast m))],[.arr (repTo c N m) .flat],false,48,0⟩) (fun m=>1≤m∧m≤N) (fun m=>N - m) 1 ?_ ?_ ?_
   ·refine weak_bothS [7,8] [1] ⟨?_⟩;simp only [List.length_replicate,show min 1 N=1 by omega];rw [show List.take 1 [V.int .i64 c]++List.drop 1 (List.replicate N (V.int .i64 0))=repTo c N 1 by rw [repTo,List.drop_replicate];rfl]
   ·exact ⟨qlu _,h1⟩
   ·rintro m hok13 Q13 n13 e13 r13;obtain ⟨hm1,hm2⟩:=hok13;refine v_seq ?_;intros;refine yR [7,8,37] ⟨?_⟩;refine v_condS _ rfl ?_ ?_
    ·intro hc2;have hrl:=repTo_len (c:=c) (N:=N) hm2;have hlt:m < N:=by rw [hrl] at hc2;omega
     refine zn [7,8] ⟨?_⟩;refine v_block ?_;intro Q17 n17 x17 e17 r17;refine v_draw (by kernel_rfl) ?_;intro K18 q18 k18;show aAny _ _ _ _ 10 (Array.replicate 10 false) _;have F:=Fc.mk (ai u1 (ai un (ai wn hrl)));refine zdMove q18 false 0 38 ?_;refine zdMove q18 true 1 39 ?_;refine zdMove q18 true 2 40 ?_;refine aAny_take q18 true 3 41 rfl rfl (by kernel_rfl) (by kernel_rfl) ?_;apply Exists.intro;apply And.intro
     ·intro t hn gx ho K' k';have g39:=gx 39 (by decide);have g40:=gx 40 (by decide);simp only [get_mk,look_cons,look_nil,set_some,Nat.reduceEqDiff,reduceIte] at g39 g40;first | have row0:=grow_row (i:=0) (ho rfl) rfl | have row0:t.n+0=t.n:=rfl
      first | have row1:=grow_row (i:=1) (ho rfl) rfl | have row1:t.n+0=t.n:=rfl
      first | have row2:=grow_row (i:=2) (ho rfl) rfl | have row2:t.n+0=t.n:=rfl
      have hdl:41 < t.n:=by rw [hn];show 41 < 48;decide
      clear hn;refine .inl ?_;simp only [zE,zL,zN,hdl,aStepM,optable,Nat.reduceEqDiff,reduceIte,implies_true,forall_const,reduceCtorEq,V.ofValue,V.ofScalar,V.un,V.gd,aExec,aop,g39,g40,row0,row1,row2,List.set_cons_zero,List.set_cons_succ,aSlice,forall_eq',bound,ElemsOK,Option.map_none,Option.isNone_none,row_mk,Blk.row,TypeDesc.slice.injEq,List.forall_mem_map,List.length_map,Go.Vm.V.cells,Int.toNat_natCast,Int.reduceToNat,←List.map_take,←List.map_drop,List.take_length,Nat.reduceAdd,Nat.reduceLeDiff,Nat.reduceLT,Nat.reduceMul,Try.underlying3,Ty.c3,Ty.a3,Try.underlying26,Ty.c26,Ty.a26,u1,un,wn,hrl];repeat (refine ai (by first | omega | exact repTo_cells | exact ⟨by omega,repTo_cells,fun y hy=>repTo_cells y (ql0 hy)⟩ | (intros;omega) | (intros;simp_all;done) | (intros;simp_all;omega)) ?_)
      exact k'
     simp only [set_some];refine zdMove q18 true 4 42 ?_;refine zdMove q18 true 5 43 ?_;refine aAny_take q18 true 6 44 rfl rfl (by kernel_rfl) (by kernel_rfl) ?_;apply Exists.intro;apply And.intro
     ·intro t hn gx ho K' k';have g42:=gx 42 (by decide);have g43:=gx 43 (by decide);simp only [get_mk,look_cons,look_nil,set_some,Nat.reduceEqDiff,reduceIte] at g42 g43;first | have row0:=grow_row (i:=0) (ho rfl) rfl | have row0:t.n+0=t.n:=rfl
      first | have row1:=grow_row (i:=1) (ho rfl) rfl | have row1:t.n+0=t.n:=rfl
      first | have row2:=grow_row (i:=2) (ho rfl) rfl | have row2:t.n+0=t.n:=rfl
      have hdl:44 < t.n:=by rw [hn];show 44 < 48;decide
      clear hn;refine .inl ?_;simp only [zE,zL,zN,hdl,aStepM,optable,Nat.reduceEqDiff,reduceIte,implies_true,forall_const,reduceCtorEq,V.ofValue,V.ofScalar,V.un,V.gd,aExec,aop,g42,g43,row0,row1,row2,List.set_cons_zero,List.set_cons_succ,aSlice,forall_eq',bound,ElemsOK,Option.map_none,Option.isNone_none,row_mk,Blk.row,TypeDesc.slice.injEq,List.forall_mem_map,List.length_map,Go.Vm.V.cells,Int.toNat_natCast,Int.reduceToNat,←List.map_take,←List.map_drop,List.take_length,Nat.reduceAdd,Nat.reduceLeDiff,Nat.reduceLT,Nat.reduceMul,Try.underlying3,Ty.c3,Ty.a3,Try.underlying26,Ty.c26,Ty.a26,u1,un,wn,hrl];repeat (refine ai (by first | omega | exact repTo_cells | exact ⟨by omega,repTo_cells,fun y hy=>repTo_cells y (ql0 hy)⟩ | (intros;omega) | (intros;simp_all;done) | (intros;simp_all;omega)) ?_)
      exact k'
     simp only [set_some];refine aAny_only 7 rfl (by kernel_rfl) ?_;intro K k;simp only [zE,zL,zO,zN,aStepM,optable,set_some,Nat.reduceEqDiff,reduceIte,Nat.reduceLT,implies_true,forall_const,reduceCtorEq,V.ofValue,V.ofScalar,V.un,V.gd,aExec,aop,aCopy,dstRng,srcOf,row_mk,Blk.row,join_ff,join_fv,join_s,join_d,join_t,List.set_cons_zero,List.set_cons_succ,List.forall_mem_map,List.length_map,Go.Vm.V.cells,V.noSl,List.size_toArray,List.getD_eq_getElem?_getD,Array.getD_eq_getD_getElem?,Option.getD_some,TypeDesc.slice.injEq,Nat.reduceAdd,Nat.reduceLeDiff,Nat.reduceMul,Try.underlying3,Ty.c3,Ty.a3,Ty.b3,Ty.s3,Try.underlying26,Ty.c26,Ty.a26,Ty.b26,Ty.s26,u1,un,wn,hrl];repeat (refine ai (by first | omega | exact repTo_cells | exact ⟨by omega,repTo_cells,fun y hy=>repTo_cells y (ql0 hy)⟩ | (intros;omega) | (intros;simp_all;done) | (intros;simp_all;omega)) ?_)
     refine k _ ?_;clear k K;refine zdBinOpW q18 true 8 46 ?_;refine zoAssign 9 ⟨?_⟩;refine aAny_done (by kernel_rfl) ?_;refine k18 _ ?_;refine n17 _ ?_;refine n13 _ (m+min m (N - m)) ?_ ?_ ?_
     ·refine weak_bothS [7,8] [0] ⟨?_⟩;simp only [Nat.sub_zero,List.length_take,repTo_len hm2,show min m N=m by omega,←Int.natCast_add];rw [repTo_step hm2 rfl]
     ·exact ⟨by omega,by omega⟩
     ·show _ < _;omega
    ·intro hc2;refine zn [7] ⟨?_⟩;refine yR [4] ⟨?_⟩;refine zr ⟨?_⟩;have hend:m=N:=by rw [repTo_len hm2] at hc2;omega
     exact ret_refK rfl rfl (by rw [hend,repTo,Nat.sub_self,List.map_replicate];simp)
theorem eqStringS_con (a b:List ByteArray) (ha:a.length≤1048576):Con Try.prog 34 [.sl (a.map V.str),.sl (b.map V.str)] [] (.bool (decide (a=b))) []:=by
 refine v_con [.tmp 4] [] Try.func34 rfl rfl rfl (by simp [Try.ntmps34]) ?_;intro Q0 n0 r0;simp only [Try.ntmps34,envFrom,Nat.reduceAdd];have T:=Tys.mk (ai Ty.t3 (ai Ty.t9 Ty.t66));have F:=Fc.mk True.intro;refine yR [0,1] ⟨?_⟩;refine v_seq ?_;intros;refine yR [0,1,10] ⟨?_⟩;refine v_condS _ rfl ?_ ?_
 ·intro hc0;refine yR [4] ⟨?_⟩;refine zr ⟨?_⟩;exact ret_pure rfl (by rw [decide_eq_false (fun h=>by subst h;simp at hc0)]) (.inl rfl)
 ·intro hc0;have hab:a.length=b.length:=by omega
  refine zn [0,1] ⟨?_⟩;refine v_seq ?_;intros;refine yR [0,1,5] ⟨?_⟩;refine v_block ?_;intros;refine v_loop (fun i=>⟨[(0,.sl (a.map V.str)),(1,.sl (b.map V.str)),(5,.int .i64 (Nat.cast i))],[],false,26,0⟩) (fun i=>i≤a.length∧((a=b)↔(a.drop i=b.drop i))) (fun i=>a.length - i) 0 ?_ ?_ ?_
  ·refine weak_of [0,1,5] ?_;simp only [keep_mk,keepE_nil,keepE_cons,look_cons,look_nil,Nat.reduceEqDiff,reduceIte];rfl
  ·exact ⟨qlg _,by simp⟩
  ·rintro i hok9 Q9 n9 e9 r9;obtain ⟨hi1,hR⟩:=hok9;refine v_seq ?_;intros;refine yR [0,1,5,14] ⟨?_⟩;refine v_condS _ rfl ?_ ?_
   ·intro hc1;have hlt:i < a.length:=by omega
    obtain ⟨x,hx⟩:∃x,a[i]? =some x:=⟨a[i],qla hlt⟩;obtain ⟨y,hy⟩:∃y,b[i]? =some y:=⟨b[i],qla (by omega)⟩;have hstep:=eq_drop hab hx hy;refine zn [0,1,5] ⟨?_⟩;refine v_seq ?_;intros;refine v_block ?_;intros;refine v_seq ?_;intro Q15 n15 e15 r15;refine v_draw (by kernel_rfl) ?_;intro K16 q16 k16;show aAny _ _ _ _ 9 (Array.replicate 9 false) _;have F:=Fc.mk (ai (gdm hx) (gdm hy));refine zdMove q16 true 0 17 ?_;refine zdMove q16 true 1 18 ?_;refine zdIndexAddr q16 true 2 19 ?_;refine zdLoad q16 true 3 20 ?_;refine zdMove q16 true 4 21 ?_;refine zdMove q16 true 5 22 ?_;refine zdIndexAddr q16 true 6 23 ?_;refine zdLoad q16 true 7 24 ?_;refine zdBinOp q16 true 8 25 ?_;refine aAny_done (by kernel_rfl) ?_;refine k16 _ ?_;refine n15 _ _ (weak_keep [0,1,5,25] _) ?_;refine zk ⟨?_⟩;refine v_condS _ rfl ?_ ?_
    ·intro hc2;refine yR [4] ⟨?_⟩;refine zr ⟨?_⟩;exact ret_pure rfl (by rw [decide_eq_false (fun h=>hc2 (hstep.1 (hR.1 h)).1)]) (.inl rfl)
    ·intro hc2;refine zn [0,1,5] ⟨?_⟩;refine yV ⟨?_⟩;refine n9 _ (i+1) ?_ ?_ ?_
     ·refine weak_of [0,1,5] ?_;simp only [keep_mk,keepE_nil,keepE_cons,look_cons,look_nil,Nat.reduceEqDiff,reduceIte];rfl
     ·exact ⟨by omega,hR.trans (hstep.trans ⟨fun h=>h.2,fun h=>⟨hc2,h⟩⟩)⟩
     ·show _ < _;omega
   ·intro hc1;refine zn [] ⟨?_⟩;refine yR [4] ⟨?_⟩;refine zr ⟨?_⟩;exact ret_pure rfl (by rw [decide_eq_true (hR.2 (by rw [qle (by omega),qle (by omega)]))]) (.inl rfl)
end Go.Proofs.Ytmhaafinhpopmaa
