/- What functions compute. No condition. -/
import Derived.Test.YtmhaafinhpopmaaGreatX24
import Derived.Test.YtmhaafinhpopmaaGreatX2
import Derived.Test.YtmhaafinhpopmaaGreatX11
set_option linter.unusedSimpArgs false
set_option linter.unusedVariables false
set_option linter.defProp false
namespace Go.Proofs.YtmhaafinhpopmaaGreat
open Go Go.Vm
set_option maxHeartbeats 8000000
set_option maxRecDepth 8000 in
theorem dbChoices_step (fl:List TA) (ub:List Bool) (need:List Int) (a0:Nat) (hfl:fl.length≤12) (hub:ub.length=fl.length) (hk:∀a∈fl,0≤a.2.1∧a.2.1≤3) (hn:(need.length=4∧∀x∈need,0≤x∧x≤6)) (ha:a0≤fl.length) (ih:∀(b:Nat) (nd:List Int),a0 < b→b≤fl.length→(nd.length=4∧∀x∈nd,0≤x∧x≤6)→Con Tryz.prog 35 [.sl (fl.map (fun t:TA=>V.agg [V.str t.1,V.int .i64 t.2.1,V.int .i64 t.2.2.1,V.int .i64 t.2.2.2.1,V.int .i64 t.2.2.2.2])),.sl (ub.map V.bool),.int .i64 (b:Int),.sl (nd.map (V.int .i64))] [] (.ref 0) [.arr ((dbT nd ((triL fl ub).drop b)).map (fun l:List ByteArray=>V.sl (l.map V.str))) (fillK (dbT nd ((triL fl ub).drop b)).length)]):Con Tryz.prog 35 [.sl (fl.map (fun t:TA=>V.agg [V.str t.1,V.int .i64 t.2.1,V.int .i64 t.2.2.1,V.int .i64 t.2.2.2.1,V.int .i64 t.2.2.2.2])),.sl (ub.map V.bool),.int .i64 (a0:Int),.sl (need.map (V.int .i64))] [] (.ref 0) [.arr ((dbT need ((triL fl ub).drop a0)).map (fun l:List ByteArray=>V.sl (l.map V.str))) (fillK (dbT need ((triL fl ub).drop a0)).length)]:=by
 refine v_con [.tmp 8] [] Tryz.func35 rfl rfl rfl (by simp [Tryz.ntmps35]) ?_;intro Q0 n0 r0;simp only [Tryz.ntmps35,envFrom,Nat.reduceAdd];have T:=Tys.mk (ai Ty.t3 (ai Ty.t4 (ai Ty.t9 (ai Ty.t27 (ai Ty.t28 (ai Ty.t31 (ai Ty.t38 (ai Ty.t65 Ty.t72))))))));have F:=Fc.mk True.intro;refine yR [0,1,2,3] ⟨?_⟩;refine v_seq ?_;intros;refine yRc [0,1,2,3,15] (l1All_con need 0 0 (by omega)) ⟨?_⟩;refine v_condS _ rfl ?_ ?_
 ·intro hc0;rw [l1zero] at hc0;have hdb:dbT need ((triL fl ub).drop a0)=[[]]:=by rw [dbT,if_pos hc0]
  refine v_seq ?_;intro Q5 n5 e5 r5;refine yV ⟨?_⟩;apply n5
  ·apply weak_trans (weak_keep [8] _);simp only [keep_mk,keepE_nil,keepE_cons,look_cons,look_nil,Nat.reduceEqDiff,reduceIte];exact weak_trans (weak_content 1 [.nsl] .flat rfl) (weak_fd 1 [.sl []] rfl)
  try simp only [atSlot_cons,atSlot_nil,Nat.reduceEqDiff,reduceIte,List.set_cons_zero,List.set_cons_succ]
  refine zr ⟨?_⟩;rw [hdb];exact rta (h5:=rfl)
 ·intro hc0;rw [l1zero] at hc0;have hzf:zeroL need=false:=by simpa using hc0
  have hdb:dbT need ((triL fl ub).drop a0)=loopS need ((triL fl ub).drop a0) []:=by rw [dbT,if_neg (by rw [hzf];decide)]
  refine zn [0,1,2,3] ⟨?_⟩;refine yR [0,1,2,3,9] ⟨?_⟩;refine v_seq ?_;intros;refine yR [0,1,3,9,10] ⟨?_⟩;refine v_block ?_;intros;refine v_loop (fun p=>⟨[(0,.sl (fl.map (fun t:TA=>V.agg [V.str t.1,V.int .i64 t.2.1,V.int .i64 t.2.2.1,V.int .i64 t.2.2.2.1,V.int .i64 t.2.2.2.2]))),(1,.sl (ub.map V.bool)),(3,.sl (need.map (V.int .i64))),(9,.ref 1),(10,.int .i64 (Nat.cast p.1))],[.arr [] .flat,.arr (p.2.map (fun l:List ByteArray=>V.sl (l.map V.str))) (fillK p.2.length)],true,81,0⟩) (fun p=>(a0≤p.1∧p.1≤fl.length)∧p.2.length≤300∧loopS need ((triL fl ub).drop p.1) p.2=loopS need ((triL fl ub).drop a0) []) (fun p=>fl.length - p.1) ((a0,[]):Nat×List (List ByteArray)) ?_ ?_ ?_
  ·refine weak_trans (weak_keep [0,1,3,9,10] _) ?_;simp only [keep_mk,keepE_nil,keepE_cons,look_cons,look_nil,Nat.reduceEqDiff,reduceIte];exact weak_view
  ·exact ⟨⟨qlu _,ha⟩,qlk _,rfl⟩
  ·rintro ⟨i,acc⟩ hok11 Q11 n11 e11 r11;obtain ⟨hi1,hal,hR⟩:=hok11;simp only [] at hi1 hal hR⊢;refine v_seq ?_;intros;refine yR [0,1,3,9,10,26] ⟨?_⟩;refine v_condS _ rfl ?_ ?_
   ·intro hc1;have hlt:i < fl.length:=by omega
    obtain ⟨⟨x0,x1,x2,x3,x4⟩,hx⟩:∃x:TA,fl[i]? =some x:=⟨fl[i]'(by omega),qla (by omega)⟩;obtain ⟨u,hu⟩:∃u,ub[i]? =some u:=⟨_,qla (by omega)⟩;have hkx:=hk _ (qlb hx);simp only [] at hkx;obtain ⟨kx,hkk⟩:=qlf hkx.1;subst hkk;obtain ⟨v,hv,hv0,hv6,hvg⟩:=need_at (k:=kx) hn (by omega);have hst:=tri_drop hx hu;simp only [] at hst;rw [hst] at hR;have hol:¬20 < acc.length:=by omega
    refine zn [0,1,3,9,10] ⟨?_⟩;refine v_seq ?_;intros;refine v_block ?_;intros;refine v_seq ?_;intros;have F:=Fc.mk (ai (gdm hx) (ai (gdm hu) (gdm hv)));refine yR [0,1,3,9,10,44] ⟨?_⟩;refine v_condS _ rfl ?_ ?_
    ·intro hc2;have hm:u=false∨need.getD ((kx:Int)).toNat 0=0:=by
      rw [hvg];first | exact hc2 | (simpa using hc2) | (cases u<;>simp_all)
     refine zn [0,1,3,9,10] ⟨?_⟩;refine yV ⟨?_⟩;refine n11 _ (i+1,acc) ?_ ?_ ?_
     ·refine weak_bothS [0,1,3,9,10] [0,1] ⟨?_⟩;rfl
     ·exact ⟨by show a0≤i+1∧i+1≤fl.length;omega,hal,by rw [←hR,loopS_miss hol hm]⟩
     ·show _ < _;show fl.length - (i+1) < fl.length - i;omega
    ·intro hc2;have hm:u=true∧¬v=0:=by first | exact hc2 | (simpa using hc2) | (cases u<;>simp_all)
     obtain ⟨rfl,hv1⟩:=hm;have hvp:0 < need.getD ((kx:Int)).toNat 0:=by rw [hvg];omega
     have hdk:need.set kx (v - 1)=decK need (kx:Int):=by rw [decK,hvg,ql2]
     have hll:need.length=4:=hn.1;have hdn:=decK_ok hn hvp;rw [loopS_hit hol (by omega)] at hR;have hrec:Con Tryz.prog 35 [.sl (fl.map (fun t:TA=>V.agg [V.str t.1,V.int .i64 t.2.1,V.int .i64 t.2.2.1,V.int .i64 t.2.2.2.1,V.int .i64 t.2.2.2.2])),.sl (ub.map V.bool),.int .i64 ((i:Int)+1),.sl ((need.set kx (v - 1)).map (V.int .i64))] [] (.ref 0) [.arr ((dbT (decK need (kx:Int)) ((triL fl ub).drop (i+1))).map (fun l:List ByteArray=>V.sl (l.map V.str))) (fillK (dbT (decK need (kx:Int)) ((triL fl ub).drop (i+1))).length)]:=by rw [hdk];exact ih (i+1) _ (by omega) (by omega) hdn
     have hrl:=dbT_le (decK need (kx:Int)) ((triL fl ub).drop (i+1));have hrin:=@dbT_in (decK need (kx:Int)) ((triL fl ub).drop (i+1));rw [qmh,tri_len hub] at hrl hrin;generalize dbT (decK need (kx:Int)) ((triL fl ub).drop (i+1))=rs at hrec hrl hrin hR;refine zn [0,1,3,9,10] ⟨?_⟩;have F:=Fc.mk (ai (gdm hx) (ai (gdm hu) (ai (gdm hv) (ai @set_map hll))));refine yRc [0,1,3,9,10,11] (l1Own_con need (by omega)) ⟨?_⟩;refine yR [0,1,3,9,10,11] ⟨?_⟩;refine yRc [0,1,3,9,10,62,63,64] (hrec) ⟨?_⟩;refine v_block ?_;intros;refine v_loop (fun q=>⟨[(0,.sl (fl.map (fun t:TA=>V.agg [V.str t.1,V.int .i64 t.2.1,V.int .i64 t.2.2.1,V.int .i64 t.2.2.2.1,V.int .i64 t.2.2.2.2]))),(1,.sl (ub.map V.bool)),(3,.sl (need.map (V.int .i64))),(9,.ref 1),(10,.int .i64 (Nat.cast i)),(62,.ref 2),(63,.int .i64 rs.length),(64,.int .i64 (Nat.cast q.1))],[.arr [] .flat,.arr (q.2.map (fun l:List ByteArray=>V.sl (l.map V.str))) (fillK q.2.length),.arr (rs.map (fun l:List ByteArray=>V.sl (l.map V.str))) (fillK rs.length)],true,81,0⟩) (fun q=>q.1≤rs.length∧q.2=acc++(rs.take q.1).map (x0::·)) (fun q=>rs.length - q.1) ((0,acc):Nat×List (List ByteArray)) ?_ ?_ ?_
     ·refine weak_bothS [0,1,3,9,10,62,63,64] [0,1,3] ⟨?_⟩;rfl
     ·exact ⟨qlk _,by simp⟩
     ·rintro ⟨j,aj⟩ hok25 Q25 n25 e25 r25;obtain ⟨hj1,haj⟩:=hok25;simp only [] at hj1 haj⊢;refine yR [0,1,3,9,10,62,63,64,65] ⟨?_⟩;refine v_seq ?_;intros;refine v_condS _ rfl ?_ ?_
      ·intro hc3;have hltj:j < rs.length:=by omega
       obtain ⟨y,hy⟩:∃y,rs[j]? =some y:=⟨_,qla hltj⟩;have hyl:=hrin y (qlb hy);have hsj:=take_snoc hy;have htl:(rs.take j).length=j:=by rw [qls];omega
       have hajl:aj.length=acc.length+j:=by rw [haj,qlm,ql7,htl]
       have hns:(y.map V.str).all V.noSl=true:=by rw [List.all_map,qlh];intro a _;rfl
       refine zn [0,1,3,9,10,62,63,64] ⟨?_⟩;refine v_seq ?_;intros;refine v_block ?_;intros;have F:=Fc.mk (ai (gdm hx) (ai (gdm hu) (ai (gdm hv) (ai @set_map (ai hll (ai (gdm hy) hns))))));refine yR [0,1,3,9,10,13,62,63,64] ⟨?_⟩;refine yQ [0,1,3,9,10,62,63,64] ⟨?_⟩;refine yV ⟨?_⟩;refine n25 _ (j+1,aj++[x0::y]) ?_ ?_ ?_
       ·refine weak_bothS [0,1,3,9,10,62,63,64] [0,6,2] ⟨?_⟩;rw [←snoc_TT,fillK_snocT];rfl
       ·exact ⟨hltj,by show aj++[x0::y]=_;rw [hsj,haj,ql1,qlw];rfl⟩
       ·show _ < _;show rs.length - (j+1) < rs.length - j;omega
      ·intro hc3;have haj2:aj=acc++rs.map (x0::·):=by rw [haj,qmg (by omega)]
       refine zn [0,1,3,9,10] ⟨?_⟩;refine yV ⟨?_⟩;refine n11 _ (i+1,aj) ?_ ?_ ?_
       ·refine weak_bothS [0,1,3,9,10] [0,1] ⟨?_⟩;rfl
       ·exact ⟨by show a0≤i+1∧i+1≤fl.length;omega,by show aj.length≤300;rw [haj2,qlm,ql7];omega,by rw [haj2];exact hR⟩
       ·show _ < _;show fl.length - (i+1) < fl.length - i;omega
   ·intro hc1;have hend:acc=dbT need ((triL fl ub).drop a0):=by
     rw [hdb,←hR]
     by_cases hq:20 < acc.length
     ·rw [loopS_full hq]
     ·rw [qlt (by rw [tri_len hub];first | omega | (simp_all;omega))];rfl
    refine zn [9] ⟨?_⟩;refine v_seq ?_;intro Q35 n35 e35 r35;refine yV ⟨?_⟩;apply n35
    ·apply weak_trans (weak_keep [8] _);simp only [keep_mk,keepE_nil,keepE_cons,look_cons,look_nil,Nat.reduceEqDiff,reduceIte];exact weak_refl _ _
    try simp only [atSlot_cons,atSlot_nil,Nat.reduceEqDiff,reduceIte,List.set_cons_zero,List.set_cons_succ]
    refine zr ⟨?_⟩;rw [←hend];exact rta
theorem dbChoices_con (fl:List TA) (ub:List Bool) (hfl:fl.length≤12) (hub:ub.length=fl.length) (hk:∀a∈fl,0≤a.2.1∧a.2.1≤3) (need:List Int) (a0:Nat) (hn:(need.length=4∧∀x∈need,0≤x∧x≤6)) (ha:a0≤fl.length) :
    Con Tryz.prog 35 [.sl (fl.map (fun t:TA=>V.agg [V.str t.1,V.int .i64 t.2.1,V.int .i64 t.2.2.1,V.int .i64 t.2.2.2.1,V.int .i64 t.2.2.2.2])),.sl (ub.map V.bool),.int .i64 (a0:Int),.sl (need.map (V.int .i64))] [] (.ref 0) [.arr ((dbT need ((triL fl ub).drop a0)).map (fun l:List ByteArray=>V.sl (l.map V.str))) (fillK (dbT need ((triL fl ub).drop a0)).length)]:=by
  have key:∀(m a0:Nat) (need:List Int),fl.length - a0≤m→(need.length=4∧∀x∈need,0≤x∧x≤6)→a0≤fl.length→Con Tryz.prog 35 [.sl (fl.map (fun t:TA=>V.agg [V.str t.1,V.int .i64 t.2.1,V.int .i64 t.2.2.1,V.int .i64 t.2.2.2.1,V.int .i64 t.2.2.2.2])),.sl (ub.map V.bool),.int .i64 (a0:Int),.sl (need.map (V.int .i64))] [] (.ref 0) [.arr ((dbT need ((triL fl ub).drop a0)).map (fun l:List ByteArray=>V.sl (l.map V.str))) (fillK (dbT need ((triL fl ub).drop a0)).length)]:=by
    intro m
    induction m with
    | zero=>exact fun a0 need h hn ha=>dbChoices_step fl ub need a0 hfl hub hk hn ha fun b nd h1 h2 h3=>absurd h1 (by omega)
    | succ m ih=>exact fun a0 need h hn ha=>dbChoices_step fl ub need a0 hfl hub hk hn ha fun b nd h1 h2 h3=>ih b nd (by omega) h3 h2
  exact key _ a0 need (qlu _) hn ha
end Go.Proofs.YtmhaafinhpopmaaGreat
