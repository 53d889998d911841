/- What functions compute. No condition. -/
import Derived.Test.YtmhaafinhpopmaaGreatX10
import Derived.Test.YtmhaafinhpopmaaGreatX12
set_option linter.unusedSimpArgs false
set_option linter.unusedVariables false
set_option linter.defProp false
namespace Go.Proofs.YtmhaafinhpopmaaGreat
open Go Go.Vm
set_option maxHeartbeats 8000000
theorem findA_cases (fl:List TA) (s:ByteArray):findA fl s=-1∨∃(k:Nat) (x:TA),findA fl s=(k:Int)∧fl[k]? =some x∧x.1=s:=by
  by_cases h:findA fl s=-1
  · exact .inl h
  · obtain ⟨k,h1,h2,_,x,h4,h5⟩:=first_some h
    exact .inr ⟨k,x,by rw [findA,h2,Nat.zero_add],h4,by simpa using h5⟩
def attR (n:Int) (ss:List TS) (fl:List TA) (node:Int) (names:List ByteArray):Bool:=askD n ss fl node && attB fl (tmL n ss node) names
def attW (n:Int) (ss:List TS) (fl:List TA) (node:Int) (names:List ByteArray):Int:=if attR n ss fl node names=true then attV fl (tmL n ss node) names else 0
theorem attOne_none {fl:List TA} {ts:List Int} {s:ByteArray} (h:findA fl s=-1):attOne fl ts s=-1:=by rw [attOne,if_pos (by omega)]
theorem attOne_some {fl:List TA} {ts:List Int} {s:ByteArray} {k:Nat} {x:TA} {w:Nat} {p:Int} (h:findA fl s=(k:Int)) (hx:fl[k]? =some x) (hw:x.2.2.1=(w:Int)) (hp:ts[w]? =some p):attOne fl ts s=p:=by
  rw [attOne,if_neg (by omega),h,key_is hx hw hp]
theorem attV_step {fl:List TA} {ts:List Int} {names:List ByteArray} {i:Nat} {s:ByteArray} (h:names[i]? =some s):attV fl ts (names.take (i+1))=max (attV fl ts (names.take i)) (attOne fl ts s):=by
  rw [attV,qme,h,Option.toList,List.foldl_append];rfl
theorem attB_split {fl:List TA} {ts:List Int} {names:List ByteArray}:attB fl ts names=((chainAt (fun _:ByteArray=>true) strLt names 0 && names.all fun s=>decide (0≤attOne fl ts s)) && !decide ((names.length:Int)=0)):=by
  rw [attB,chain_split]
set_option maxRecDepth 8000 in
theorem implAtt_con (n:Int) (ss:List TS) (fl:List TA) (node:Int) (names:List ByteArray) (hs:ss.length≤1048576) (hl:fl.length≤1048576) (hls:∀t∈fl,t.1.size≤9223372036854775807) (hnl:names.length≤1048576):Con Tryz.prog 11 [.agg [.int .i64 n,.sl (ss.map (fun t:TS=>V.agg [V.int .i64 t.1,V.int .i64 t.2.1,V.int .i64 t.2.2]))],.sl (fl.map (fun t:TA=>V.agg [V.str t.1,V.int .i64 t.2.1,V.int .i64 t.2.2.1,V.int .i64 t.2.2.2.1,V.int .i64 t.2.2.2.2])),.int .i64 node,.sl (names.map V.str)] [] (.tup [.int .i64 (attW n ss fl node names),.bool (attR n ss fl node names)]) []:=by
 refine v_con [.tmp 8,.tmp 9] [] Tryz.func11 rfl rfl rfl (by simp [Tryz.ntmps11]) ?_;intro Q0 n0 r0;simp only [Tryz.ntmps11,envFrom,Nat.reduceAdd];have T:=Tys.mk (ai Ty.t3 (ai Ty.t4 (ai Ty.t9 (ai Ty.t24 (ai Ty.t26 (ai Ty.t27 (ai Ty.t28 (ai Ty.t38 (ai Ty.t59 (ai Ty.t72 Ty.t98))))))))));have F:=Fc.mk True.intro;refine yR [1,2,3,4] ⟨?_⟩;refine v_seq ?_;intros;refine yRcg [1,2,3,4,27] (dispatchFits_con n ss fl hs hl hls) (tHas_con n ss node) ⟨?_⟩;refine v_condS _ rfl ?_ ?_
 ·intro hc0;have hh:attR n ss fl node names=false:=by cases hq:attR n ss fl node names with | false=>rfl | true=>(exfalso;simp [attR,askD,attB_split] at hq;first | (simp_all;done) | (simp_all [askD];done) | (simp_all;omega))
  have hw0:attW n ss fl node names=0:=by rw [attW,hh];rfl
  refine yR [8,9] ⟨?_⟩;refine zr ⟨?_⟩;rw [hh,hw0];exact ret_pure rfl rfl (.inl rfl)
 ·intro hc0;have hask:askD n ss fl node=true:=by rw [askD,qlo];first | exact hc0.1 | (simp [askD] at hc0;first | exact hc0.1 | (simp_all;done))
  obtain ⟨hd,hu⟩:=ask_facts hask;have hn0:¬(names.length:Int)=0:=by first | exact hc0.2 | (simp at hc0;first | omega | (simp_all;done))
  have hfl:=hd.hfl;obtain ⟨ts,hts⟩:∃ts,ts=tmL n ss node:=⟨_,rfl⟩;have htl:ts.length=n.toNat:=by rw [hts,times_len]
  have htb:=tm_facts hd.hn hu hd.hss hd.hsl;rw [←hts] at htb;have hn14:=hd.hn;have hAR:attR n ss fl node names=attB fl ts names:=by rw [attR,hask,hts];rfl
  have hAW:attW n ss fl node names=if attB fl ts names=true then attV fl ts names else 0:=by rw [attW,hAR,hts]
  refine zn [1,2,3,4] ⟨?_⟩;refine yRc [1,3,10,11] ((hts ▸ tTimes_con n ss node hd.hn hu hd.hss hd.hsl:Con _ _ _ _ _ [.arr (ts.map (V.int .i64)) .flat])) ⟨?_⟩;refine v_seq ?_;intros;refine yR [1,3,10,11,30,31,32] ⟨?_⟩;refine v_block ?_;intros;refine v_loop (fun q=>⟨[(1,.sl (fl.map (fun t:TA=>V.agg [V.str t.1,V.int .i64 t.2.1,V.int .i64 t.2.2.1,V.int .i64 t.2.2.2.1,V.int .i64 t.2.2.2.2]))),(3,.sl (names.map V.str)),(10,.ref 0),(11,.int .i64 q.2),(30,.sl (names.map V.str)),(31,.int .i64 names.length),(32,.int .i64 (Nat.cast q.1))],[.arr (ts.map (V.int .i64)) .flat],false,78,0⟩) (fun q=>q.1≤names.length∧attV fl ts (names.take q.1)=q.2∧chainAt (fun s=>decide (0≤attOne fl ts s)) strLt names q.1=chainAt (fun s=>decide (0≤attOne fl ts s)) strLt names 0) (fun q=>names.length - q.1) ((0,0):Nat×Int) ?_ ?_ ?_
  ·refine weak_bothS [1,3,10,11,30,31,32] [1] ⟨?_⟩;rfl
  ·exact ⟨qlk _,rfl,rfl⟩
  ·rintro ⟨i,most⟩ hok10 Q10 n10 e10 r10;obtain ⟨hi1,hR,hR2⟩:=hok10;simp only [] at hi1 hR hR2⊢;refine yR [1,3,10,11,30,31,32,33] ⟨?_⟩;refine v_seq ?_;intros;refine v_condS _ rfl ?_ ?_
   ·intro hc1;have hlt:i < names.length:=by omega
    obtain ⟨x,hx⟩:∃x,names[i]? =some x:=⟨_,qla hlt⟩;have hav:=attV_step (fl:=fl) (ts:=ts) hx;rcases Nat.eq_zero_or_pos i with h0 | h0<;>rcases findA_cases fl x with hf1 | ⟨k,⟨a0,a1,a2,a3,a4⟩,hf1,hf2,_⟩
    ·skip;have hi0:¬((0:Int) < (i:Int)):=by omega
     have hst:chainAt (fun s=>decide (0≤attOne fl ts s)) strLt names i=(decide (0≤attOne fl ts x) && chainAt (fun s=>decide (0≤attOne fl ts s)) strLt names (i+1)):=by subst h0;exact chain_zero hx
     have hone:=attOne_none (ts:=ts) hf1;have hneg:decide (findA fl x < (0:Int))=true:=by rw [hf1];rfl
     refine zn [1,3,10,11,30,31,32] ⟨?_⟩;refine v_seq ?_;intros;refine v_block ?_;intros;have F:=Fc.mk (ai (gdm hx) (ai hi0 (ai @decide_false (ai @Bool.and_false (ai hneg (ai @Bool.true_or (ai @Bool.not_true @Bool.false_and)))))));refine yR [1,3,10,11,12,13,30,31,32] ⟨?_⟩;refine yRc [1,3,10,11,12,13,14,30,31,32] (findAppliance_con fl x hl) ⟨?_⟩;refine v_seq ?_;intros;refine yR [1,3,10,11,14,30,31,32,65] ⟨?_⟩;refine v_cond _ rfl ?_ ?_
     ·intro hc2;try simp only [zC,reduceCtorEq] at hc2
      have hbad:chainAt (fun s=>decide (0≤attOne fl ts s)) strLt names 0=false:=by
       rw [←hR2,hst];simp only [hone];first
       |(simp;done)
       |(simp;omega)
       |(cases z:strLt y x with | false=>simp | true=>(simp [z] at hc2;rw [decide_eq_false (show ¬0≤p by omega)];rfl))
       |(simp_all;done)
      refine yR [8,9] ⟨?_⟩;refine zr ⟨?_⟩;rw [hAR,hAW];exact ret_pure rfl (by rw [attB,hbad];rfl) (.inl rfl)
     ·intro hc2;exfalso;first | (cases hc2;done) | (simp at hc2;done)
    ·skip;have hi0:¬((0:Int) < (i:Int)):=by omega
     have hst:chainAt (fun s=>decide (0≤attOne fl ts s)) strLt names i=(decide (0≤attOne fl ts x) && chainAt (fun s=>decide (0≤attOne fl ts s)) strLt names (i+1)):=by subst h0;exact chain_zero hx
     have hneg:decide (findA fl x < (0:Int))=false:=by rw [hf1];exact decide_eq_false (by omega)
     have hidx:(findA fl x).toNat=k:=by rw [hf1];exact ql2 _
     have hkl:k < fl.length:=(qlc.1 hf2).1;have hap:=hd.hap _ (qlb hf2);simp only [] at hap;obtain ⟨w,hw⟩:=qlf hap.2.1;subst hw;obtain ⟨p,hp⟩:∃p,ts[w]? =some p:=⟨_,qla (by rw [htl];omega)⟩;have hwl:w < ts.length:=by rw [htl];omega
     have hone:=attOne_some hf1 hf2 rfl hp;refine zn [1,3,10,11,30,31,32] ⟨?_⟩;refine v_seq ?_;intros;refine v_block ?_;intros;have F:=Fc.mk (ai (gdm hx) (ai hi0 (ai @decide_false (ai @Bool.and_false (ai hneg (ai hidx (ai (gdm hf2) (gdm hp))))))));refine yR [1,3,10,11,12,13,30,31,32] ⟨?_⟩;refine yRc [1,3,10,11,12,13,14,30,31,32] (findAppliance_con fl x hl) ⟨?_⟩;refine v_seq ?_;intros;refine yR [1,3,10,11,14,30,31,32,65] ⟨?_⟩;refine v_condS _ rfl ?_ ?_
     ·intro hc2;have hbad:chainAt (fun s=>decide (0≤attOne fl ts s)) strLt names 0=false:=by
       rw [←hR2,hst];simp only [hone];first
       |(simp;done)
       |(simp;omega)
       |(cases z:strLt y x with | false=>simp | true=>(simp [z] at hc2;rw [decide_eq_false (show ¬0≤p by omega)];rfl))
       |(simp_all;done)
      refine yR [8,9] ⟨?_⟩;refine zr ⟨?_⟩;rw [hAR,hAW];exact ret_pure rfl (by rw [attB,hbad];rfl) (.inl rfl)
     ·intro hc2;have hp0:0≤p:=by first | exact hc2 | exact hc2.2 | (simp at hc2;omega)
      have hgood:chainAt (fun s=>decide (0≤attOne fl ts s)) strLt names (i+1)=chainAt (fun s=>decide (0≤attOne fl ts s)) strLt names 0:=by
       rw [←hR2,hst];simp only [hone];first | (simp [hp0];done) | (simp [hp0,hc2];done) | (simp_all;done)
      refine zn [1,3,10,11,14,30,31,32] ⟨?_⟩;refine yQ [1,3,10,11,30,31,32] ⟨?_⟩;refine yV ⟨?_⟩;refine n10 _ (i+1,if p > most then p else most) ?_ ?_ ?_
      ·refine weak_bothS [1,3,10,11,30,31,32] [0] ⟨?_⟩;rfl
      ·exact ⟨hlt,by show attV fl ts (names.take (i+1))=(if p > most then p else most);rw [hav,hR,hone];split<;>omega,hgood⟩
      ·show _ < _;show names.length - (i+1) < names.length - i;omega
    ·skip;obtain ⟨y,hy⟩:∃y,names[i - 1]? =some y:=⟨_,qla (by omega)⟩;have hi0:(0:Int) < i:=by omega
     have hk:((i:Int) - 1).toNat=i - 1:=by omega
     have hst:=chain_succ (ok:=(fun s=>decide (0≤attOne fl ts s))) (bf:=strLt) h0 hy hx;have hone:=attOne_none (ts:=ts) hf1;have hneg:decide (findA fl x < (0:Int))=true:=by rw [hf1];rfl
     refine zn [1,3,10,11,30,31,32] ⟨?_⟩;refine v_seq ?_;intros;refine v_block ?_;intros;have F:=Fc.mk (ai (gdm hx) (ai hi0 (ai hk (ai (gdm hy) (ai @decide_true (ai @Bool.and_true (ai hneg (ai @Bool.true_or (ai @Bool.not_true @Bool.false_and)))))))));refine yR [1,3,10,11,12,13,30,31,32] ⟨?_⟩;refine yRc [1,3,10,11,12,13,14,30,31,32] (findAppliance_con fl x hl) ⟨?_⟩;refine v_seq ?_;intros;refine yR [1,3,10,11,14,30,31,32,65] ⟨?_⟩;refine v_cond _ rfl ?_ ?_
     ·intro hc2;try simp only [zC,reduceCtorEq] at hc2
      have hbad:chainAt (fun s=>decide (0≤attOne fl ts s)) strLt names 0=false:=by
       rw [←hR2,hst];simp only [hone];first
       |(simp;done)
       |(simp;omega)
       |(cases z:strLt y x with | false=>simp | true=>(simp [z] at hc2;rw [decide_eq_false (show ¬0≤p by omega)];rfl))
       |(simp_all;done)
      refine yR [8,9] ⟨?_⟩;refine zr ⟨?_⟩;rw [hAR,hAW];exact ret_pure rfl (by rw [attB,hbad];rfl) (.inl rfl)
     ·intro hc2;exfalso;first | (cases hc2;done) | (simp at hc2;done)
    ·skip;obtain ⟨y,hy⟩:∃y,names[i - 1]? =some y:=⟨_,qla (by omega)⟩;have hi0:(0:Int) < i:=by omega
     have hk:((i:Int) - 1).toNat=i - 1:=by omega
     have hst:=chain_succ (ok:=(fun s=>decide (0≤attOne fl ts s))) (bf:=strLt) h0 hy hx;have hneg:decide (findA fl x < (0:Int))=false:=by rw [hf1];exact decide_eq_false (by omega)
     have hidx:(findA fl x).toNat=k:=by rw [hf1];exact ql2 _
     have hkl:k < fl.length:=(qlc.1 hf2).1;have hap:=hd.hap _ (qlb hf2);simp only [] at hap;obtain ⟨w,hw⟩:=qlf hap.2.1;subst hw;obtain ⟨p,hp⟩:∃p,ts[w]? =some p:=⟨_,qla (by rw [htl];omega)⟩;have hwl:w < ts.length:=by rw [htl];omega
     have hone:=attOne_some hf1 hf2 rfl hp;refine zn [1,3,10,11,30,31,32] ⟨?_⟩;refine v_seq ?_;intros;refine v_block ?_;intros;have F:=Fc.mk (ai (gdm hx) (ai hi0 (ai hk (ai (gdm hy) (ai @decide_true (ai @Bool.and_true (ai hneg (ai hidx (ai (gdm hf2) (gdm hp))))))))));refine yR [1,3,10,11,12,13,30,31,32] ⟨?_⟩;refine yRc [1,3,10,11,12,13,14,30,31,32] (findAppliance_con fl x hl) ⟨?_⟩;refine v_seq ?_;intros;refine yR [1,3,10,11,14,30,31,32,65] ⟨?_⟩;refine v_condS _ rfl ?_ ?_
     ·intro hc2;have hbad:chainAt (fun s=>decide (0≤attOne fl ts s)) strLt names 0=false:=by
       rw [←hR2,hst];simp only [hone];first
       |(simp;done)
       |(simp;omega)
       |(cases z:strLt y x with | false=>simp | true=>(simp [z] at hc2;rw [decide_eq_false (show ¬0≤p by omega)];rfl))
       |(simp_all;done)
      refine yR [8,9] ⟨?_⟩;refine zr ⟨?_⟩;rw [hAR,hAW];exact ret_pure rfl (by rw [attB,hbad];rfl) (.inl rfl)
     ·intro hc2;have hp0:0≤p:=by first | exact hc2 | exact hc2.2 | (simp at hc2;omega)
      have hgood:chainAt (fun s=>decide (0≤attOne fl ts s)) strLt names (i+1)=chainAt (fun s=>decide (0≤attOne fl ts s)) strLt names 0:=by
       rw [←hR2,hst];simp only [hone];first | (simp [hp0];done) | (simp [hp0,hc2];done) | (simp_all;done)
      refine zn [1,3,10,11,14,30,31,32] ⟨?_⟩;refine yQ [1,3,10,11,30,31,32] ⟨?_⟩;refine yV ⟨?_⟩;refine n10 _ (i+1,if p > most then p else most) ?_ ?_ ?_
      ·refine weak_bothS [1,3,10,11,30,31,32] [0] ⟨?_⟩;rfl
      ·exact ⟨hlt,by show attV fl ts (names.take (i+1))=(if p > most then p else most);rw [hav,hR,hone];split<;>omega,hgood⟩
      ·show _ < _;show names.length - (i+1) < names.length - i;omega
   ·intro hc1;refine zn [11] ⟨?_⟩;refine yR [8,9] ⟨?_⟩;refine zr ⟨?_⟩;have hB:attB fl ts names=true:=by rw [attB,←hR2,chain_end (by omega),decide_eq_false hn0];rfl
    rw [hAR,hAW];exact ret_pure rfl (by rw [hB,if_pos rfl,←hR,qmg (by omega)]) (.inl rfl)
set_option maxRecDepth 8000 in
theorem specAtt_con (n:Int) (ss:List TS) (fl:List TA) (node:Int) (names:List ByteArray) (hs:ss.length≤1048576) (hl:fl.length≤1048576) (hls:∀t∈fl,t.1.size≤9223372036854775807) (hnl:names.length≤1048576):Con Tryz.prog 12 [.agg [.int .i64 n,.sl (ss.map (fun t:TS=>V.agg [V.int .i64 t.1,V.int .i64 t.2.1,V.int .i64 t.2.2]))],.sl (fl.map (fun t:TA=>V.agg [V.str t.1,V.int .i64 t.2.1,V.int .i64 t.2.2.1,V.int .i64 t.2.2.2.1,V.int .i64 t.2.2.2.2])),.int .i64 node,.sl (names.map V.str)] [] (.tup [.int .i64 (attW n ss fl node names),.bool (attR n ss fl node names)]) []:=by
 refine v_con [.tmp 8,.tmp 9] [] Tryz.func12 rfl rfl rfl (by simp [Tryz.ntmps12]) ?_;intro Q0 n0 r0;simp only [Tryz.ntmps12,envFrom,Nat.reduceAdd];have T:=Tys.mk (ai Ty.t3 (ai Ty.t4 (ai Ty.t9 (ai Ty.t24 (ai Ty.t26 (ai Ty.t27 (ai Ty.t28 (ai Ty.t38 (ai Ty.t72 Ty.t98)))))))));have F:=Fc.mk True.intro;refine yR [1,2,3,4] ⟨?_⟩;refine v_seq ?_;intros;refine yRcg [1,2,3,4,29] (dsAsked_con n ss fl node hs hl hls) (dsNames_con names hnl) ⟨?_⟩;refine v_condS _ rfl ?_ ?_
 ·intro hc0;have hh:attR n ss fl node names=false:=by cases hq:attR n ss fl node names with | false=>rfl | true=>(exfalso;simp [attR,askD,attB_split] at hq;first | (simp_all;done) | (simp_all [askD];done) | (simp_all;omega))
  have hw0:attW n ss fl node names=0:=by rw [attW,hh];rfl
  refine yR [8,9] ⟨?_⟩;refine zr ⟨?_⟩;rw [hh,hw0];exact ret_pure rfl rfl (.inl rfl)
 ·intro hc0;have hH:(askD n ss fl node=true∧¬(names.length:Int)=0)∧chainAt (fun _:ByteArray=>true) strLt names 0=true:=by first | exact hc0 | (simp at hc0;first | exact hc0 | (simp_all;done) | (refine ⟨⟨?_,?_⟩,?_⟩<;>simp_all))
  obtain ⟨⟨hask,hn0⟩,hnt⟩:=hH;obtain ⟨hd,hu⟩:=ask_facts hask;have hfl:=hd.hfl;obtain ⟨ts,hts⟩:∃ts,ts=tmL n ss node:=⟨_,rfl⟩;have htl:ts.length=n.toNat:=by rw [hts,times_len]
  have htb:=tm_facts hd.hn hu hd.hss hd.hsl;rw [←hts] at htb;have hn14:=hd.hn;have hAR:attR n ss fl node names=attB fl ts names:=by rw [attR,hask,hts];rfl
  have hAW:attW n ss fl node names=if attB fl ts names=true then attV fl ts names else 0:=by rw [attW,hAR,hts]
  refine zn [1,2,3,4] ⟨?_⟩;refine yRc [1,3,10] ((hts ▸ toTimes_con n ss node hd.hn hu hd.hss hd.hsl:Con _ _ _ _ _ [.arr (ts.map (V.int .i64)) .flat])) ⟨?_⟩;refine yR [1,3,10,11] ⟨?_⟩;refine v_seq ?_;intros;refine yR [1,10,11,33,34,35] ⟨?_⟩;refine v_block ?_;intros;refine v_loop (fun q=>⟨[(1,.sl (fl.map (fun t:TA=>V.agg [V.str t.1,V.int .i64 t.2.1,V.int .i64 t.2.2.1,V.int .i64 t.2.2.2.1,V.int .i64 t.2.2.2.2]))),(10,.ref 0),(11,.int .i64 q.2),(33,.sl (names.map V.str)),(34,.int .i64 names.length),(35,.int .i64 (Nat.cast q.1))],[.arr (ts.map (V.int .i64)) .flat],false,67,0⟩) (fun q=>q.1≤names.length∧attV fl ts (names.take q.1)=q.2∧(names.drop q.1).all (fun s=>decide (0≤attOne fl ts s))=names.all (fun s=>decide (0≤attOne fl ts s))) (fun q=>names.length - q.1) ((0,0):Nat×Int) ?_ ?_ ?_
  ·refine weak_bothS [1,10,11,33,34,35] [1] ⟨?_⟩;rfl
  ·exact ⟨qlk _,rfl,rfl⟩
  ·rintro ⟨i,most⟩ hok11 Q11 n11 e11 r11;obtain ⟨hi1,hR,hR2⟩:=hok11;simp only [] at hi1 hR hR2⊢;refine yR [1,10,11,33,34,35,36] ⟨?_⟩;refine v_seq ?_;intros;refine v_condS _ rfl ?_ ?_
   ·intro hc1;have hlt:i < names.length:=by omega
    obtain ⟨x,hx⟩:∃x,names[i]? =some x:=⟨_,qla hlt⟩;have hav:=attV_step (fl:=fl) (ts:=ts) hx;have hst:=all_step (p:=(fun s=>decide (0≤attOne fl ts s))) hx;rcases findA_cases fl x with hf1 | ⟨k,⟨a0,a1,a2,a3,a4⟩,hf1,hf2,_⟩
    ·skip;have hone:=attOne_none (ts:=ts) hf1;have hneg:decide (findA fl x < (0:Int))=true:=by rw [hf1];rfl
     refine zn [1,10,11,33,34,35] ⟨?_⟩;refine v_seq ?_;intros;refine v_block ?_;intros;have F:=Fc.mk (ai (gdm hx) (ai hneg (ai @Bool.true_or (ai @Bool.not_true @Bool.false_and))));refine yR [1,10,11,13,33,34,35] ⟨?_⟩;refine yRc [1,10,11,14,33,34,35] (apFind_con fl x hl) ⟨?_⟩;refine v_seq ?_;intros;refine yR [1,10,11,14,33,34,35,54] ⟨?_⟩;refine v_cond _ rfl ?_ ?_
     ·intro hc2;try simp only [zC,reduceCtorEq] at hc2
      have hbad:names.all (fun s=>decide (0≤attOne fl ts s))=false:=by
       rw [←hR2,hst];simp only [hone];first
       |(simp;done)
       |(simp;omega)
       |(simp_all;done)
      refine yR [8,9] ⟨?_⟩;refine zr ⟨?_⟩;rw [hAR,hAW];exact ret_pure rfl (by rw [attB_split,hbad];simp) (.inl rfl)
     ·intro hc2;exfalso;first | (cases hc2;done) | (simp at hc2;done)
    ·skip;have hneg:decide (findA fl x < (0:Int))=false:=by rw [hf1];exact decide_eq_false (by omega)
     have hidx:(findA fl x).toNat=k:=by rw [hf1];exact ql2 _
     have hkl:k < fl.length:=(qlc.1 hf2).1;have hap:=hd.hap _ (qlb hf2);simp only [] at hap;obtain ⟨w,hw⟩:=qlf hap.2.1;subst hw;obtain ⟨p,hp⟩:∃p,ts[w]? =some p:=⟨_,qla (by rw [htl];omega)⟩;have hwl:w < ts.length:=by rw [htl];omega
     have hone:=attOne_some hf1 hf2 rfl hp;refine zn [1,10,11,33,34,35] ⟨?_⟩;refine v_seq ?_;intros;refine v_block ?_;intros;have F:=Fc.mk (ai (gdm hx) (ai hneg (ai hidx (ai (gdm hf2) (gdm hp)))));refine yR [1,10,11,13,33,34,35] ⟨?_⟩;refine yRc [1,10,11,14,33,34,35] (apFind_con fl x hl) ⟨?_⟩;refine v_seq ?_;intros;refine yR [1,10,11,14,33,34,35,54] ⟨?_⟩;refine v_condS _ rfl ?_ ?_
     ·intro hc2;have hbad:names.all (fun s=>decide (0≤attOne fl ts s))=false:=by
       rw [←hR2,hst];simp only [hone];first
       |(simp;done)
       |(simp;omega)
       |(simp_all;done)
      refine yR [8,9] ⟨?_⟩;refine zr ⟨?_⟩;rw [hAR,hAW];exact ret_pure rfl (by rw [attB_split,hbad];simp) (.inl rfl)
     ·intro hc2;have hp0:0≤p:=by first | exact hc2 | exact hc2.2 | (simp at hc2;omega)
      have hgood:(names.drop (i+1)).all (fun s=>decide (0≤attOne fl ts s))=names.all (fun s=>decide (0≤attOne fl ts s)):=by
       rw [←hR2,hst];simp only [hone];first | (simp [hp0];done) | (simp_all;done)
      refine zn [1,10,11,14,33,34,35] ⟨?_⟩;refine yQc [1,10,11,33,34,35] (l1Most_con most p) ⟨?_⟩;refine yV ⟨?_⟩;refine n11 _ (i+1,if p > most then p else most) ?_ ?_ ?_
      ·refine weak_bothS [1,10,11,33,34,35] [0] ⟨?_⟩;rfl
      ·exact ⟨hlt,by show attV fl ts (names.take (i+1))=(if p > most then p else most);rw [hav,hR,hone];split<;>omega,hgood⟩
      ·show _ < _;show names.length - (i+1) < names.length - i;omega
   ·intro hc1;refine zn [11] ⟨?_⟩;refine yR [8,9] ⟨?_⟩;refine zr ⟨?_⟩;have hB:attB fl ts names=true:=by rw [attB_split,hnt,←hR2,all_end (by omega),decide_eq_false hn0];rfl
    rw [hAR,hAW];exact ret_pure rfl (by rw [hB,if_pos rfl,←hR,qmg (by omega)]) (.inl rfl)
end Go.Proofs.YtmhaafinhpopmaaGreat
