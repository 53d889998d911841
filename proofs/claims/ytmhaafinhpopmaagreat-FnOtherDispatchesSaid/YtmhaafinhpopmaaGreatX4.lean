/- What functions compute. No condition. -/
import Derived.Test.YtmhaafinhpopmaaGreatX1
set_option linter.unusedSimpArgs false
set_option linter.unusedVariables false
set_option linter.defProp false
namespace Go.Proofs.YtmhaafinhpopmaaGreat
open Go Go.Vm
set_option maxHeartbeats 8000000
def hasB (n x:Int):Bool:=decide (0≤x) && decide (x≤IntKind.i64.wrap (n - 1))
def strOK (n:Int) (x:TS):Bool:=hasB n x.1 && hasB n x.2.1 && decide (x.1 < x.2.1) && (decide (1≤x.2.2) && decide (x.2.2≤3600))
def toStr (n:Int) (x:TS):Bool:=hasB n x.1 && hasB n x.2.1 && !decide (x.1=x.2.1) && (decide (1≤x.2.2) && decide (x.2.2≤3600))
def strBf (x y:TS):Bool:=decide (x.1 < y.1) || (decide (x.1=y.1) && decide (x.2.1 < y.2.1))
def townH (n:Int) (ss:List TS):Bool:=(decide (1≤n) && decide (n≤14)) && !decide (40 < (ss.length:Int))
def townB (n:Int) (ss:List TS):Bool:=townH n ss && chainAt (strOK n) strBf ss 0
def cmpSt (x y:TS):Int:=orL [cmpI x.1 y.1,cmpI x.2.1 y.2.1]
theorem cmpSt_bf (x y:TS):decide (0≤cmpSt x y)= !strBf x y:=by
  obtain ⟨x0,x1,x2⟩:=x;obtain ⟨y0,y1,y2⟩:=y;simp only [cmpSt,orL,cmpI,strBf]
  by_cases h1:x0 < y0
  · simp [h1]
  · by_cases h2:y0 < x0
    · have:¬x0=y0:=by omega
      simp [h1,h2,this]
    · have:x0=y0:=by omega
      subst this
      by_cases h3:x1 < y1
      · simp [h3]
      · by_cases h4:y1 < x1
        · simp [h3,h4]
        · simp [h3,h4]
theorem toStr_ok (n:Int) (x:TS):(toStr n x && !decide (x.2.1 < x.1))=strOK n x:=by
  obtain ⟨x0,x1,x2⟩:=x;simp only [toStr,strOK]
  by_cases h:x0 < x1
  · have h1:¬x0=x1:=by omega
    have h2:¬x1 < x0:=by omega
    simp [h,h1,h2]
  · by_cases h1:x0=x1
    · simp [h1]
    · have h2:x1 < x0:=by omega
      simp [h,h2]
theorem toStr_or (n:Int) (x:TS):(!toStr n x || decide (x.2.1 < x.1))= !strOK n x:=by
  rw [←toStr_ok];cases toStr n x<;>cases decide (x.2.1 < x.1)<;>rfl
theorem tHas_con (n:Int) (ss:List TS) (x:Int):Con Tryz.prog 27 [.pv [.agg [.int .i64 n,.sl (ss.map (fun t:TS=>V.agg [V.int .i64 t.1,V.int .i64 t.2.1,V.int .i64 t.2.2]))]] 0 0,.int .i64 x] [] (.bool (hasB n x)) []:=by
 refine v_con [.tmp 4] [] Tryz.func27 rfl rfl rfl (by simp [Tryz.ntmps27]) ?_;intro Q0 n0 r0;simp only [Tryz.ntmps27,envFrom,Nat.reduceAdd];have T:=Tys.mk (ai Ty.t3 (ai Ty.t4 (ai Ty.t24 (ai Ty.t26 Ty.t98))));have F:=Fc.mk True.intro;refine yR [0,1] ⟨?_⟩;refine yRc [4] (inside_con _ _ _) ⟨?_⟩;refine zr ⟨?_⟩;exact ret_pure rfl rfl (.inl rfl)
theorem tFits_con (n:Int) (ss:List TS) (x0:Int) (x1:Int) (x2:Int):Con Tryz.prog 85 [.pv [.agg [.int .i64 n,.sl (ss.map (fun t:TS=>V.agg [V.int .i64 t.1,V.int .i64 t.2.1,V.int .i64 t.2.2]))]] 0 0,.agg [V.int .i64 x0,V.int .i64 x1,V.int .i64 x2]] [] (.bool (strOK n (x0,x1,x2))) []:=by
 refine v_con [.tmp 4] [] Tryz.func85 rfl rfl rfl (by simp [Tryz.ntmps85]) ?_;intro Q0 n0 r0;simp only [Tryz.ntmps85,envFrom,Nat.reduceAdd];have T:=Tys.mk (ai Ty.t3 (ai Ty.t4 (ai Ty.t24 (ai Ty.t26 (ai Ty.t59 Ty.t98)))));have F:=Fc.mk True.intro;refine yR [0,3] ⟨?_⟩;refine yRcgg [4] (tHas_con n ss x0) (tHas_con n ss x1) (inside_con _ _ _) ⟨?_⟩;refine zr ⟨?_⟩;exact ret_pure rfl (by simp [strOK]) (.inl rfl)
theorem cmpStreets_con (x0:Int) (x1:Int) (x2:Int) (y0:Int) (y1:Int) (y2:Int):Con Tryz.prog 86 [.agg [V.int .i64 x0,V.int .i64 x1,V.int .i64 x2],.agg [V.int .i64 y0,V.int .i64 y1,V.int .i64 y2]] [] (.int .i64 (cmpSt (x0,x1,x2) (y0,y1,y2))) []:=by
 refine v_con [.tmp 4] [] Tryz.func86 rfl rfl rfl (by simp [Tryz.ntmps86]) ?_;intro Q0 n0 r0;simp only [Tryz.ntmps86,envFrom,Nat.reduceAdd];have T:=Tys.mk (ai Ty.t3 (ai Ty.t28 Ty.t98));have F:=Fc.mk True.intro;refine yR [2,3] ⟨?_⟩;refine v_seq ?_;intro Q2 n2 e2 r2;refine v_draw (by kernel_rfl) ?_;intro K3 q3 k3;show aAny _ _ _ _ 13 (Array.replicate 13 false) _;refine zdFieldAddr q3 true 0 5 ?_;refine zdLoad q3 true 1 6 ?_;refine zdFieldAddr q3 true 2 7 ?_;refine zdLoad q3 true 3 8 ?_;refine zdFieldAddr q3 true 5 10 ?_;refine zdLoad q3 true 6 11 ?_;refine zdFieldAddr q3 true 7 12 ?_;refine zdLoad q3 true 8 13 ?_;refine zoc 4 (cmpInt_con x0 y0) ⟨?_⟩;refine zoc 9 (cmpInt_con x1 y1) ⟨?_⟩;refine zoBuildSlice 10 ⟨?_⟩;refine zoc 11 (cmpOr_con [cmpI x0 y0,cmpI x1 y1] (by simp)) ⟨?_⟩;refine zoAssign 12 ⟨?_⟩;refine aAny_done (by kernel_rfl) ?_;refine k3 _ ?_;refine n2 _ _ (weak_keep [4] _) ?_;refine zq1 ⟨?_⟩;exact ret_pure rfl rfl (.inl rfl)
theorem toStreetB_con (x0:Int) (x1:Int) (x2:Int) (n:Int):Con Tryz.prog 93 [.agg [V.int .i64 x0,V.int .i64 x1,V.int .i64 x2],.int .i64 n] [] (.bool (toStr n (x0,x1,x2))) []:=by
 refine v_con [.tmp 4] [] Tryz.func93 rfl rfl rfl (by simp [Tryz.ntmps93]) ?_;intro Q0 n0 r0;simp only [Tryz.ntmps93,envFrom,Nat.reduceAdd];have T:=Tys.mk (ai Ty.t3 (ai Ty.t4 Ty.t98));have F:=Fc.mk True.intro;refine yR [1,2] ⟨?_⟩;refine yRcgg [4] (l1In_con _ _ _) (l1In_con _ _ _) (l1In_con _ _ _) ⟨?_⟩;refine zr ⟨?_⟩;exact ret_pure rfl (by simp [toStr,hasB]) (.inl rfl)
theorem toBefore_con (x0:Int) (x1:Int) (x2:Int) (y0:Int) (y1:Int) (y2:Int):Con Tryz.prog 95 [.agg [V.int .i64 x0,V.int .i64 x1,V.int .i64 x2],.agg [V.int .i64 y0,V.int .i64 y1,V.int .i64 y2]] [] (.bool (strBf (x0,x1,x2) (y0,y1,y2))) []:=by
 refine v_con [.tmp 4] [] Tryz.func95 rfl rfl rfl (by simp [Tryz.ntmps95]) ?_;intro Q0 n0 r0;simp only [Tryz.ntmps95,envFrom,Nat.reduceAdd];have T:=Tys.mk (ai Ty.t3 Ty.t98);have F:=Fc.mk True.intro;refine yR [2,3] ⟨?_⟩;refine yR [4] ⟨?_⟩;refine zr ⟨?_⟩;exact ret_pure rfl (by simp [strBf]) (.inl rfl)
set_option maxRecDepth 8000 in
theorem isTown_con (n:Int) (ss:List TS) (hs:ss.length≤1048576):Con Tryz.prog 57 [.pv [.agg [.int .i64 n,.sl (ss.map (fun t:TS=>V.agg [V.int .i64 t.1,V.int .i64 t.2.1,V.int .i64 t.2.2]))]] 0 0] [] (.bool (townB n ss)) []:=by
 refine v_con [.tmp 2] [] Tryz.func57 rfl rfl rfl (by simp [Tryz.ntmps57]) ?_;intro Q0 n0 r0;simp only [Tryz.ntmps57,envFrom,Nat.reduceAdd];have T:=Tys.mk (ai Ty.t3 (ai Ty.t4 (ai Ty.t24 (ai Ty.t26 (ai Ty.t59 Ty.t98)))));have F:=Fc.mk True.intro;refine yR [0] ⟨?_⟩;refine v_seq ?_;intros;refine yRc [0,18] (inside_con _ _ _) ⟨?_⟩;refine v_condS _ rfl ?_ ?_
 ·intro hc0;have hh:townH n ss=false:=by cases hq:townH n ss with | false=>rfl | true=>(exfalso;simp [townH] at hq;(try simp at hc0);omega)
  refine yR [2] ⟨?_⟩;refine zr ⟨?_⟩;exact ret_pure rfl (by rw [townB,hh];rfl) (.inl rfl)
 ·intro hc0;have hh:townH n ss=true:=by simp only [townH,Bool.and_eq_true,Bool.not_eq_true',decide_eq_true_eq,decide_eq_false_iff_not];(try simp at hc0);omega
  refine zn [0] ⟨?_⟩;refine v_seq ?_;intros;refine yR [0,22,23,24] ⟨?_⟩;refine v_block ?_;intros;refine v_loop (fun i=>⟨[(0,.pv [.agg [.int .i64 n,.sl (ss.map (fun t:TS=>V.agg [V.int .i64 t.1,V.int .i64 t.2.1,V.int .i64 t.2.2]))]] 0 0),(22,.sl (ss.map (fun t:TS=>V.agg [V.int .i64 t.1,V.int .i64 t.2.1,V.int .i64 t.2.2]))),(23,.int .i64 ss.length),(24,.int .i64 (Nat.cast i))],[],false,51,0⟩) (fun i=>i≤ss.length∧chainAt (strOK n) strBf ss i=chainAt (strOK n) strBf ss 0) (fun i=>ss.length - i) 0 ?_ ?_ ?_
  ·refine weak_bothS [0,22,23,24] [] ⟨?_⟩;rfl
  ·exact ⟨qlk _,rfl⟩
  ·rintro i hok9 Q9 n9 e9 r9;obtain ⟨hi1,hR⟩:=hok9;refine yR [0,22,23,24,25] ⟨?_⟩;refine v_seq ?_;intros;refine v_condS _ rfl ?_ ?_
   ·intro hc1;have hlt:i < ss.length:=by omega
    obtain ⟨⟨x0,x1,x2⟩,hx⟩:∃x:TS,ss[i]? =some x:=⟨ss[i]'(by omega),qla (by omega)⟩;rcases Nat.eq_zero_or_pos i with h0 | h0
    ·skip;have y0:Int:=0;have y1:Int:=0;have y2:Int:=0;have hi0:¬((0:Int) < (i:Int)):=by omega
     have hst:chainAt (strOK n) strBf ss i=(strOK n (x0,x1,x2) && chainAt (strOK n) strBf ss (i+1)):=by subst h0;exact chain_zero hx
     have hts:=toStr_or n (x0,x1,x2);simp only [] at hts;refine zn [0,22,23,24] ⟨?_⟩;refine v_seq ?_;intros;refine v_block ?_;intros;have F:=Fc.mk (ai (gdm hx) (ai hi0 (ai @decide_false (ai @Bool.and_false hts))));refine yR [0,3,4,22,23,24] ⟨?_⟩;refine v_seq ?_;intro Q16 n16 e16 r16;refine v_draw (by kernel_rfl) ?_;intro K17 q17 k17;show aAny _ _ _ _ 21 (Array.replicate 21 false) _;refine zdMove q17 true 0 29 ?_;refine zdLoad q17 true 1 30 ?_;refine zoc 2 (tFits_con n ss x0 x1 x2) ⟨?_⟩;refine zdUnOp q17 true 3 32 ?_;refine zdMove q17 true 4 33 ?_;refine zdgMove q17 true 5 34 ?_;refine zdgBinOp q17 true 6 35 ?_;refine zdgMove q17 true 7 36 ?_;refine zdgMove q17 true 8 37 ?_;refine zdgNilCheck q17 true 9 38 ?_;refine zdgFieldAddr q17 true 10 39 ?_;refine zdgLoad q17 true 11 40 ?_;refine zdgMove q17 true 12 41 ?_;refine zdgBinOpW q17 true 13 42 ?_;refine zdgIndexAddr q17 true 14 43 ?_;refine zdgLoad q17 true 15 44 ?_;refine zdgLoad q17 true 16 45 ?_;first
     |refine zogc 17 (cmpStreets_con y0 y1 y2 x0 x1 x2) ⟨?_⟩
     |(refine aAny_pass 17 46 7 true rfl rfl (show 46 < 51 by decide) (by kernel_rfl) rfl ?_ ?_;(focus first | rfl | (simp only [zV,guardV,Nat.reduceEqDiff,reduceIte];done));simp only [zW,set_some,Nat.reduceEqDiff,reduceIte])
     refine zdgBinOp q17 true 18 47 ?_;refine zdgPick q17 true 19 48 ?_;refine zdPick q17 true 20 49 ?_;refine aAny_done (by kernel_rfl) ?_;refine k17 _ ?_;refine n16 _ _ (weak_keep [0,22,23,24,49] _) ?_;refine zk ⟨?_⟩;refine v_condS _ rfl ?_ ?_
     ·intro hc2;refine yR [2] ⟨?_⟩;refine zr ⟨?_⟩;exact ret_pure rfl (by rw [townB,hh,←hR,hst];(try simp at hc2);first | (simp [hc2];done) | (rcases hc2 with h | h<;>simp [h];done) | (simp_all;done)) (.inl rfl)
     ·intro hc2;refine zn [0,22,23,24] ⟨?_⟩;refine yV ⟨?_⟩;refine n9 _ (i+1) ?_ ?_ ?_
      ·refine weak_bothS [0,22,23,24] [] ⟨?_⟩;rfl
      ·exact ⟨by omega,by rw [←hR,hst];(try simp at hc2);first | (simp [hc2];done) | (simp_all;done)⟩
      ·show _ < _;omega
    ·skip;obtain ⟨⟨y0,y1,y2⟩,hy⟩:∃x:TS,ss[i - 1]? =some x:=⟨ss[i - 1]'(by omega),qla (by omega)⟩;have hi0:(0:Int) < i:=by omega
     have hk:((i:Int) - 1).toNat=i - 1:=by omega
     have hst:=chain_succ (ok:=strOK n) (bf:=strBf) h0 hy hx;have hcb:=cmpSt_bf (y0,y1,y2) (x0,x1,x2);have hts:=toStr_or n (x0,x1,x2);simp only [] at hts;refine zn [0,22,23,24] ⟨?_⟩;refine v_seq ?_;intros;refine v_block ?_;intros;have F:=Fc.mk (ai (gdm hx) (ai hi0 (ai hk (ai (gdm hy) (ai @decide_true (ai @Bool.and_true (ai hcb hts)))))));refine yR [0,3,4,22,23,24] ⟨?_⟩;refine v_seq ?_;intro Q24 n24 e24 r24;refine v_draw (by kernel_rfl) ?_;intro K25 q25 k25;show aAny _ _ _ _ 21 (Array.replicate 21 false) _;refine zdMove q25 true 0 29 ?_;refine zdLoad q25 true 1 30 ?_;refine zoc 2 (tFits_con n ss x0 x1 x2) ⟨?_⟩;refine zdUnOp q25 true 3 32 ?_;refine zdMove q25 true 4 33 ?_;refine zdgMove q25 true 5 34 ?_;refine zdgBinOp q25 true 6 35 ?_;refine zdgMove q25 true 7 36 ?_;refine zdgMove q25 true 8 37 ?_;refine zdgNilCheck q25 true 9 38 ?_;refine zdgFieldAddr q25 true 10 39 ?_;refine zdgLoad q25 true 11 40 ?_;refine zdgMove q25 true 12 41 ?_;refine zdgBinOpW q25 true 13 42 ?_;refine zdgIndexAddr q25 true 14 43 ?_;refine zdgLoad q25 true 15 44 ?_;refine zdgLoad q25 true 16 45 ?_;first
     |refine zogc 17 (cmpStreets_con y0 y1 y2 x0 x1 x2) ⟨?_⟩
     |(refine aAny_pass 17 46 7 true rfl rfl (show 46 < 51 by decide) (by kernel_rfl) rfl ?_ ?_;(focus first | rfl | (simp only [zV,guardV,Nat.reduceEqDiff,reduceIte];done));simp only [zW,set_some,Nat.reduceEqDiff,reduceIte])
     refine zdgBinOp q25 true 18 47 ?_;refine zdgPick q25 true 19 48 ?_;refine zdPick q25 true 20 49 ?_;refine aAny_done (by kernel_rfl) ?_;refine k25 _ ?_;refine n24 _ _ (weak_keep [0,22,23,24,49] _) ?_;refine zk ⟨?_⟩;refine v_condS _ rfl ?_ ?_
     ·intro hc2;refine yR [2] ⟨?_⟩;refine zr ⟨?_⟩;exact ret_pure rfl (by rw [townB,hh,←hR,hst];(try simp at hc2);first | (simp [hc2];done) | (rcases hc2 with h | h<;>simp [h];done) | (simp_all;done)) (.inl rfl)
     ·intro hc2;refine zn [0,22,23,24] ⟨?_⟩;refine yV ⟨?_⟩;refine n9 _ (i+1) ?_ ?_ ?_
      ·refine weak_bothS [0,22,23,24] [] ⟨?_⟩;rfl
      ·exact ⟨by omega,by rw [←hR,hst];(try simp at hc2);first | (simp [hc2];done) | (simp_all;done)⟩
      ·show _ < _;omega
   ·intro hc1;refine zn [] ⟨?_⟩;refine yR [2] ⟨?_⟩;refine zr ⟨?_⟩;exact ret_pure rfl (by rw [townB,hh,←hR,chain_end (by omega)];rfl) (.inl rfl)
set_option maxRecDepth 8000 in
theorem toGood_con (n:Int) (ss:List TS) (hs:ss.length≤1048576):Con Tryz.prog 88 [.agg [.int .i64 n,.sl (ss.map (fun t:TS=>V.agg [V.int .i64 t.1,V.int .i64 t.2.1,V.int .i64 t.2.2]))]] [] (.bool (townB n ss)) []:=by
 refine v_con [.tmp 2] [] Tryz.func88 rfl rfl rfl (by simp [Tryz.ntmps88]) ?_;intro Q0 n0 r0;simp only [Tryz.ntmps88,envFrom,Nat.reduceAdd];have T:=Tys.mk (ai Ty.t3 (ai Ty.t4 (ai Ty.t24 (ai Ty.t26 Ty.t98))));have F:=Fc.mk True.intro;refine yR [1] ⟨?_⟩;refine v_seq ?_;intros;refine yRc [1,14] (l1In_con _ _ _) ⟨?_⟩;refine v_condS _ rfl ?_ ?_
 ·intro hc0;have hh:townH n ss=false:=by cases hq:townH n ss with | false=>rfl | true=>(exfalso;simp [townH] at hq;(try simp at hc0);omega)
  refine yR [2] ⟨?_⟩;refine zr ⟨?_⟩;exact ret_pure rfl (by rw [townB,hh];rfl) (.inl rfl)
 ·intro hc0;have hh:townH n ss=true:=by simp only [townH,Bool.and_eq_true,Bool.not_eq_true',decide_eq_true_eq,decide_eq_false_iff_not];(try simp at hc0);omega
  refine zn [1] ⟨?_⟩;refine v_seq ?_;intros;refine yR [1,16,17,18] ⟨?_⟩;refine v_block ?_;intros;refine v_loop (fun i=>⟨[(1,.ptr 0 0 0),(16,.sl (ss.map (fun t:TS=>V.agg [V.int .i64 t.1,V.int .i64 t.2.1,V.int .i64 t.2.2]))),(17,.int .i64 ss.length),(18,.int .i64 (Nat.cast i))],[.box (.agg [.int .i64 n,.sl (ss.map (fun t:TS=>V.agg [V.int .i64 t.1,V.int .i64 t.2.1,V.int .i64 t.2.2]))]) .shal],false,51,0⟩) (fun i=>i≤ss.length∧chainAt (strOK n) strBf ss i=chainAt (strOK n) strBf ss 0) (fun i=>ss.length - i) 0 ?_ ?_ ?_
  ·refine weak_bothS [1,16,17,18] [0] ⟨?_⟩;rfl
  ·exact ⟨qlk _,rfl⟩
  ·rintro i hok9 Q9 n9 e9 r9;obtain ⟨hi1,hR⟩:=hok9;refine yR [1,16,17,18,19] ⟨?_⟩;refine v_seq ?_;intros;refine v_condS _ rfl ?_ ?_
   ·intro hc1;have hlt:i < ss.length:=by omega
    obtain ⟨⟨x0,x1,x2⟩,hx⟩:∃x:TS,ss[i]? =some x:=⟨ss[i]'(by omega),qla (by omega)⟩;rcases Nat.eq_zero_or_pos i with h0 | h0
    ·skip;have y0:Int:=0;have y1:Int:=0;have y2:Int:=0;have hi0:¬((0:Int) < (i:Int)):=by omega
     have hst:chainAt (strOK n) strBf ss i=(strOK n (x0,x1,x2) && chainAt (strOK n) strBf ss (i+1)):=by subst h0;exact chain_zero hx
     have hts:=toStr_or n (x0,x1,x2);simp only [] at hts;refine zn [1,16,17,18] ⟨?_⟩;refine v_seq ?_;intros;refine v_block ?_;intros;have F:=Fc.mk (ai (gdm hx) (ai hi0 (ai @decide_false (ai @Bool.and_false hts))));refine yR [1,3,4,16,17,18] ⟨?_⟩;refine v_seq ?_;intro Q16 n16 e16 r16;refine v_draw (by kernel_rfl) ?_;intro K17 q17 k17;show aAny _ _ _ _ 27 (Array.replicate 27 false) _;refine zdLoad q17 true 0 23 ?_;refine zdFieldAddr q17 true 1 24 ?_;refine zdLoad q17 true 2 25 ?_;refine zoc 3 (toStreetB_con x0 x1 x2 n) ⟨?_⟩;refine zdUnOp q17 true 4 27 ?_;refine zdMove q17 true 5 28 ?_;refine zdgFieldAddr q17 true 6 29 ?_;refine zdgLoad q17 true 7 30 ?_;refine zdgFieldAddr q17 true 8 31 ?_;refine zdgLoad q17 true 9 32 ?_;refine zdgBinOp q17 true 10 33 ?_;refine zdPick q17 true 11 34 ?_;refine zdMove q17 true 12 35 ?_;refine zdgMove q17 true 13 36 ?_;refine zdgBinOp q17 true 14 37 ?_;refine zdgMove q17 true 15 38 ?_;refine zdgFieldAddr q17 true 16 39 ?_;refine zdgLoad q17 true 17 40 ?_;refine zdgMove q17 true 18 41 ?_;refine zdgBinOpW q17 true 19 42 ?_;refine zdgIndexAddr q17 true 20 43 ?_;refine zdgLoad q17 true 21 44 ?_;refine zdgLoad q17 true 22 45 ?_;first
     |refine zogc 23 (toBefore_con y0 y1 y2 x0 x1 x2) ⟨?_⟩
     |(refine aAny_pass 23 46 15 true rfl rfl (show 46 < 51 by decide) (by kernel_rfl) rfl ?_ ?_;(focus first | rfl | (simp only [zV,guardV,Nat.reduceEqDiff,reduceIte];done));simp only [zW,set_some,Nat.reduceEqDiff,reduceIte])
     refine zdgUnOp q17 true 24 47 ?_;refine zdgPick q17 true 25 48 ?_;refine zdPick q17 true 26 49 ?_;refine aAny_done (by kernel_rfl) ?_;refine k17 _ ?_;refine n16 _ _ (weak_keep [1,16,17,18,49] _) ?_;refine zk ⟨?_⟩;refine v_condS _ rfl ?_ ?_
     ·intro hc2;refine yR [2] ⟨?_⟩;refine zr ⟨?_⟩;exact ret_pure rfl (by rw [townB,hh,←hR,hst];(try simp at hc2);first | (simp [hc2];done) | (rcases hc2 with h | h<;>simp [h];done) | (simp_all;done)) (.inl rfl)
     ·intro hc2;refine zn [1,16,17,18] ⟨?_⟩;refine yV ⟨?_⟩;refine n9 _ (i+1) ?_ ?_ ?_
      ·refine weak_bothS [1,16,17,18] [0] ⟨?_⟩;rfl
      ·exact ⟨by omega,by rw [←hR,hst];(try simp at hc2);first | (simp [hc2];done) | (simp_all;done)⟩
      ·show _ < _;omega
    ·skip;obtain ⟨⟨y0,y1,y2⟩,hy⟩:∃x:TS,ss[i - 1]? =some x:=⟨ss[i - 1]'(by omega),qla (by omega)⟩;have hi0:(0:Int) < i:=by omega
     have hk:((i:Int) - 1).toNat=i - 1:=by omega
     have hst:=chain_succ (ok:=strOK n) (bf:=strBf) h0 hy hx;have hcb:=cmpSt_bf (y0,y1,y2) (x0,x1,x2);have hts:=toStr_or n (x0,x1,x2);simp only [] at hts;refine zn [1,16,17,18] ⟨?_⟩;refine v_seq ?_;intros;refine v_block ?_;intros;have F:=Fc.mk (ai (gdm hx) (ai hi0 (ai hk (ai (gdm hy) (ai @decide_true (ai @Bool.and_true (ai hcb hts)))))));refine yR [1,3,4,16,17,18] ⟨?_⟩;refine v_seq ?_;intro Q24 n24 e24 r24;refine v_draw (by kernel_rfl) ?_;intro K25 q25 k25;show aAny _ _ _ _ 27 (Array.replicate 27 false) _;refine zdLoad q25 true 0 23 ?_;refine zdFieldAddr q25 true 1 24 ?_;refine zdLoad q25 true 2 25 ?_;refine zoc 3 (toStreetB_con x0 x1 x2 n) ⟨?_⟩;refine zdUnOp q25 true 4 27 ?_;refine zdMove q25 true 5 28 ?_;refine zdgFieldAddr q25 true 6 29 ?_;refine zdgLoad q25 true 7 30 ?_;refine zdgFieldAddr q25 true 8 31 ?_;refine zdgLoad q25 true 9 32 ?_;refine zdgBinOp q25 true 10 33 ?_;refine zdPick q25 true 11 34 ?_;refine zdMove q25 true 12 35 ?_;refine zdgMove q25 true 13 36 ?_;refine zdgBinOp q25 true 14 37 ?_;refine zdgMove q25 true 15 38 ?_;refine zdgFieldAddr q25 true 16 39 ?_;refine zdgLoad q25 true 17 40 ?_;refine zdgMove q25 true 18 41 ?_;refine zdgBinOpW q25 true 19 42 ?_;refine zdgIndexAddr q25 true 20 43 ?_;refine zdgLoad q25 true 21 44 ?_;refine zdgLoad q25 true 22 45 ?_;first
     |refine zogc 23 (toBefore_con y0 y1 y2 x0 x1 x2) ⟨?_⟩
     |(refine aAny_pass 23 46 15 true rfl rfl (show 46 < 51 by decide) (by kernel_rfl) rfl ?_ ?_;(focus first | rfl | (simp only [zV,guardV,Nat.reduceEqDiff,reduceIte];done));simp only [zW,set_some,Nat.reduceEqDiff,reduceIte])
     refine zdgUnOp q25 true 24 47 ?_;refine zdgPick q25 true 25 48 ?_;refine zdPick q25 true 26 49 ?_;refine aAny_done (by kernel_rfl) ?_;refine k25 _ ?_;refine n24 _ _ (weak_keep [1,16,17,18,49] _) ?_;refine zk ⟨?_⟩;refine v_condS _ rfl ?_ ?_
     ·intro hc2;refine yR [2] ⟨?_⟩;refine zr ⟨?_⟩;exact ret_pure rfl (by rw [townB,hh,←hR,hst];(try simp at hc2);first | (simp [hc2];done) | (rcases hc2 with h | h<;>simp [h];done) | (simp_all;done)) (.inl rfl)
     ·intro hc2;refine zn [1,16,17,18] ⟨?_⟩;refine yV ⟨?_⟩;refine n9 _ (i+1) ?_ ?_ ?_
      ·refine weak_bothS [1,16,17,18] [0] ⟨?_⟩;rfl
      ·exact ⟨by omega,by rw [←hR,hst];(try simp at hc2);first | (simp [hc2];done) | (simp_all;done)⟩
      ·show _ < _;omega
   ·intro hc1;refine zn [] ⟨?_⟩;refine yR [2] ⟨?_⟩;refine zr ⟨?_⟩;exact ret_pure rfl (by rw [townB,hh,←hR,chain_end (by omega)];rfl) (.inl rfl)
theorem toNode_con (n:Int) (ss:List TS) (x:Int) (hs:ss.length≤1048576):Con Tryz.prog 68 [.agg [.int .i64 n,.sl (ss.map (fun t:TS=>V.agg [V.int .i64 t.1,V.int .i64 t.2.1,V.int .i64 t.2.2]))],.int .i64 x] [] (.bool (townB n ss && hasB n x)) []:=by
 refine v_con [.tmp 4] [] Tryz.func68 rfl rfl rfl (by simp [Tryz.ntmps68]) ?_;intro Q0 n0 r0;simp only [Tryz.ntmps68,envFrom,Nat.reduceAdd];have T:=Tys.mk (ai Ty.t3 (ai Ty.t4 (ai Ty.t24 (ai Ty.t26 Ty.t98))));have F:=Fc.mk True.intro;refine yR [1,2] ⟨?_⟩;refine yRcg [4] (toGood_con n ss hs) (l1In_con _ _ _) ⟨?_⟩;refine zr ⟨?_⟩;exact ret_pure rfl (by simp [hasB]) (.inl rfl)
end Go.Proofs.YtmhaafinhpopmaaGreat
