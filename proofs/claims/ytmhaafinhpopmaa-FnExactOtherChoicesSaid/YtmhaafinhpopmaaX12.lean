/- What functions compute. No condition. -/
import Derived.Test.YtmhaafinhpopmaaX11
set_option linter.unusedSimpArgs false
set_option linter.unusedVariables false
set_option linter.defProp false
namespace Go.Proofs.Ytmhaafinhpopmaa
open Go Go.Vm
set_option maxHeartbeats 8000000
def markAppliance (kk:Int) (n:Nat):List TA:=markG (fun j:Nat=>(markT (kk+5 * (j:Int)),(kk+5 * (j:Int)+1),(kk+5 * (j:Int)+1+1),(kk+5 * (j:Int)+1+1+1),(kk+5 * (j:Int)+1+1+1+1))) n
theorem markApplianceS_con (l:List TA) (kk:Int) (hl:l.length≤1048576) (hk:0≤kk∧kk≤1000000000000000):Con Try.prog 16 [.ref 0,.int .i64 kk] [.arr (l.map (fun t:TA=>V.agg [V.str t.1,V.int .i64 t.2.1,V.int .i64 t.2.2.1,V.int .i64 t.2.2.2.1,V.int .i64 t.2.2.2.2])) .flat] (.int .i64 (kk+5 * l.length)) [.arr ((markAppliance kk l.length).map (fun t:TA=>V.agg [V.str t.1,V.int .i64 t.2.1,V.int .i64 t.2.2.1,V.int .i64 t.2.2.2.1,V.int .i64 t.2.2.2.2])) .flat]:=by
 refine v_con [.tmp 4] [] Try.func16 rfl rfl rfl (by simp [Try.ntmps16]) ?_;intro Q0 n0 r0;simp only [Try.ntmps16,envFrom,Nat.reduceAdd];have T:=Tys.mk (ai Ty.t3 (ai Ty.t9 (ai Ty.t36 Ty.t60)));have F:=Fc.mk True.intro;refine yR [0,1] ⟨?_⟩;refine v_seq ?_;intros;refine yR [0,1,5] ⟨?_⟩;refine v_block ?_;intro Q4 n4 x4 e4 r4;refine v_loop (fun i=>⟨[(0,.ref 0),(1,.int .i64 (kk+5 * (Nat.cast i))),(5,.int .i64 (Nat.cast i))],[.arr ((markG (fun j:Nat=>(markT (kk+5 * (j:Int)),(kk+5 * (j:Int)+1),(kk+5 * (j:Int)+1+1),(kk+5 * (j:Int)+1+1+1),(kk+5 * (j:Int)+1+1+1+1))) i++l.drop i).map (fun t:TA=>V.agg [V.str t.1,V.int .i64 t.2.1,V.int .i64 t.2.2.1,V.int .i64 t.2.2.2.1,V.int .i64 t.2.2.2.2])) .flat],false,49,0⟩) (fun i=>i≤l.length) (fun i=>l.length - i) 0 ?_ ?_ ?_
 ·refine weak_bothS [0,1,5] [0] ⟨?_⟩;simp [markG]
 ·exact qlg _
 ·rintro i hok5 Q5 n5 e5 r5;have hi1:i≤l.length:=hok5;refine v_seq ?_;intros;refine yR [0,1,5,9] ⟨?_⟩;refine v_condS _ rfl ?_ ?_
  ·intro hc0;have hml:=markG_all (g:=(fun j:Nat=>(markT (kk+5 * (j:Int)),(kk+5 * (j:Int)+1),(kk+5 * (j:Int)+1+1),(kk+5 * (j:Int)+1+1+1),(kk+5 * (j:Int)+1+1+1+1)))) hi1;rw [hml] at hc0;have hlt:i < l.length:=by omega
   obtain ⟨⟨x0,x1,x2,x3,x4⟩,hx⟩:∃x:TA,l[i]? =some x:=⟨l[i]'(by omega),qla (by omega)⟩;have hmg:=markG_get (g:=(fun j:Nat=>(markT (kk+5 * (j:Int)),(kk+5 * (j:Int)+1),(kk+5 * (j:Int)+1+1),(kk+5 * (j:Int)+1+1+1),(kk+5 * (j:Int)+1+1+1+1)))) hx;have hms:((markG (fun j:Nat=>(markT (kk+5 * (j:Int)),(kk+5 * (j:Int)+1),(kk+5 * (j:Int)+1+1),(kk+5 * (j:Int)+1+1+1),(kk+5 * (j:Int)+1+1+1+1))) i++l.drop i).map (fun t:TA=>V.agg [V.str t.1,V.int .i64 t.2.1,V.int .i64 t.2.2.1,V.int .i64 t.2.2.2.1,V.int .i64 t.2.2.2.2])).set i (.agg [V.str (markT (kk+5 * (i:Int))),V.int .i64 (kk+5 * (i:Int)+1),V.int .i64 (kk+5 * (i:Int)+1+1),V.int .i64 (kk+5 * (i:Int)+1+1+1),V.int .i64 (kk+5 * (i:Int)+1+1+1+1)])=(markG (fun j:Nat=>(markT (kk+5 * (j:Int)),(kk+5 * (j:Int)+1),(kk+5 * (j:Int)+1+1),(kk+5 * (j:Int)+1+1+1),(kk+5 * (j:Int)+1+1+1+1))) (i+1)++l.drop (i+1)).map (fun t:TA=>V.agg [V.str t.1,V.int .i64 t.2.1,V.int .i64 t.2.2.1,V.int .i64 t.2.2.2.1,V.int .i64 t.2.2.2.2]):=by
    have h:=set_map (f:=(fun t:TA=>V.agg [V.str t.1,V.int .i64 t.2.1,V.int .i64 t.2.2.1,V.int .i64 t.2.2.2.1,V.int .i64 t.2.2.2.2])) (l:=(markG (fun j:Nat=>(markT (kk+5 * (j:Int)),(kk+5 * (j:Int)+1),(kk+5 * (j:Int)+1+1),(kk+5 * (j:Int)+1+1+1),(kk+5 * (j:Int)+1+1+1+1))) i++l.drop i)) (i:=i) (x:=(fun j:Nat=>(markT (kk+5 * (j:Int)),(kk+5 * (j:Int)+1),(kk+5 * (j:Int)+1+1),(kk+5 * (j:Int)+1+1+1),(kk+5 * (j:Int)+1+1+1+1))) i);rw [markG_step hx] at h;exact h
   refine zn [0,1,5] ⟨?_⟩;refine v_seq ?_;intros;refine v_block ?_;intros;have F:=Fc.mk (ai (gdm hmg) (ai hml (ai @getD_set (ai hlt (ai @qlp.{0} (ai @List.set_set.{0} hms))))));refine yRc [0,1,5] (markText_con (kk+5 * (i:Int)) (by omega)) ⟨?_⟩;refine yR [0,1,5] ⟨?_⟩;refine yR [0,1,5] ⟨?_⟩;refine yR [0,1,5] ⟨?_⟩;refine yR [0,1,5] ⟨?_⟩;refine yR [0,1,5] ⟨?_⟩;refine yR [0,1,5] ⟨?_⟩;refine yR [0,1,5] ⟨?_⟩;refine yR [0,1,5] ⟨?_⟩;refine yQ [0,1,5] ⟨?_⟩;refine yV ⟨?_⟩;refine n5 _ (i+1) ?_ ?_ ?_
   ·refine weak_bothS [0,1,5] [0] ⟨?_⟩;simp only [getD_set,List.length_map,hml,hlt,List.length_set,List.set_set,hms,List.take_succ_cons,List.take_zero,List.drop_succ_cons,List.drop_zero,List.drop_nil,List.cons_append,List.nil_append,List.append_nil];rw [show (kk+5 * (i:Int)+1+1+1+1+1)=kk+5 * ((i+1:Nat):Int) by omega];rfl
   ·exact hlt
   ·show _ < _;omega
  ·intro hc0;rw [markG_all (g:=(fun j:Nat=>(markT (kk+5 * (j:Int)),(kk+5 * (j:Int)+1),(kk+5 * (j:Int)+1+1),(kk+5 * (j:Int)+1+1+1),(kk+5 * (j:Int)+1+1+1+1)))) hi1] at hc0;refine zn [1] ⟨?_⟩;refine yR [4] ⟨?_⟩;refine zr ⟨?_⟩;have hend:i=l.length:=by omega
   subst hend;exact ret_lent rfl (by simp) rfl (by simp [markAppliance]) (by simp [Blk.kindIs]) (.inl rfl)
theorem markTown_con (n:Int) (ss:List TS) (k:Int) (hl:ss.length≤1048576) (hk:0≤k∧k≤1000000000000000):Con Try.prog 15 [.agg [.int .i64 n,.ref 0],.int .i64 k] [.arr (ss.map (fun t:TS=>V.agg [V.int .i64 t.1,V.int .i64 t.2.1,V.int .i64 t.2.2])) .flat] (.int .i64 (k+3 * ss.length)) [.arr ((markStreet k ss.length).map (fun t:TS=>V.agg [V.int .i64 t.1,V.int .i64 t.2.1,V.int .i64 t.2.2])) .flat]:=by
 refine v_con [.tmp 4] [(37,[0])] Try.func15 rfl rfl rfl (by simp [Try.ntmps15]) ?_;intro Q0 n0 r0;simp only [Try.ntmps15,envFrom,Nat.reduceAdd];have T:=Tys.mk (ai Ty.t3 (ai Ty.t32 (ai Ty.t34 Ty.t79)));have F:=Fc.mk True.intro;refine yR [1,2] ⟨?_⟩;refine yRl [1] (markStreetS_con ss k hl hk) ⟨?_⟩;refine yR [4] ⟨?_⟩;refine zr ⟨?_⟩;exact ret_lent rfl (by simp) rfl (by simp) (by simp [Blk.kindIs]) (.inl rfl)
theorem markStr0_con (k0:Int):Con Try.prog 39 [.sl [],.int .i64 k0] [] (.int .i64 k0) []:=by
 refine v_con [.tmp 4] [] Try.func39 rfl rfl rfl (by simp [Try.ntmps39]) ?_;intro Q0 n0 r0;simp only [Try.ntmps39,envFrom,Nat.reduceAdd];have T:=Tys.mk (ai Ty.t3 (ai Ty.t9 Ty.t66));have F:=Fc.mk True.intro;refine yR [0,1] ⟨?_⟩;refine v_seq ?_;intros;refine yR [0,1,5] ⟨?_⟩;refine v_block ?_;intros;refine v_loop (fun i=>⟨[(0,.sl []),(1,.int .i64 k0),(5,.int .i64 0)],[],false,20,0⟩) (fun i=>True) (fun i=>0) () ?_ ?_ ?_
 ·refine weak_of [0,1,5] ?_;simp only [keep_mk,keepE_nil,keepE_cons,look_cons,look_nil,Nat.reduceEqDiff,reduceIte];all_goals rfl
 ·trivial
 ·rintro i hok5 Q5 n5 e5 r5;have hok:True:=hok5;refine v_seq ?_;intros;refine yR [0,1,5,9] ⟨?_⟩;refine v_cond _ rfl ?_ ?_
  ·intro hc0;exfalso;simp at hc0
  ·intro hc0;try simp only [zC,reduceCtorEq] at hc0
   refine zn [1] ⟨?_⟩;refine yR [4] ⟨?_⟩;refine zr ⟨?_⟩;exact ret_pure rfl rfl (.inl rfl)
theorem cloneStr_con (l:List ByteArray) (hl:l.length≤1048576):Con Try.prog 59 [.sl (l.map V.str)] [] (.ref 0) [.arr (l.map V.str) .flat]:=by
 have hns:(l.map V.str).all V.noSl=true:=by rw [List.all_map,qlt];intro a _;rfl
 refine v_con [.tmp 2] [] Try.func59 rfl rfl rfl (by simp [Try.ntmps59]) ?_;intro Q0 n0 r0;simp only [Try.ntmps59,envFrom,Nat.reduceAdd];have T:=Tys.mk (ai Ty.t9 Ty.t66);have F:=Fc.mk True.intro;have F:=Fc.mk hns;refine yR [0] ⟨?_⟩;refine v_seq ?_;intros;refine v_seqR [0,4] ?_;intro K3 k3;refine zMove ⟨?_⟩;refine zNil ⟨?_⟩;intro nb4 hnb4;refine k3 _ ?_;refine zk ⟨?_⟩;refine v_condS _ rfl ?_ ?_
 ·intro hc0;have hnil:l=[]:=by cases l with | nil=>rfl | cons a b=>have:=hnb4 (by simp);rw [hc0] at this;cases this
  refine yR [2] ⟨?_⟩;refine zr ⟨?_⟩;rw [hnil];exact ret_refK rfl rfl rfl
 ·intro hc0;refine zn [0] ⟨?_⟩;refine yR [2] ⟨?_⟩;refine zr ⟨?_⟩;exact ret_refK rfl rfl (by simp)
def dropOw (ow:Ow) (id:Nat):Ow:=fun b=>match ow b with
  | some (r,j)=>if j=id then none else some (r,j)
  | none=>none
theorem dropOw_ne {ow:Ow} {id b:Nat} (h:dropOw ow id b≠none):ow b≠none:=fun e=>h (by simp [dropOw,e])
theorem dropOw_keep {ow:Ow} {id b j:Nat} {r:Bool} (h:ow b=some (r,j)) (hj:j≠id):dropOw ow id b=ow b:=by simp [dropOw,h,hj]
theorem dropOw_in {ow:Ow} {id b:Nat} {r:Bool} (h:ow b=some (r,id)):dropOw ow id b=none:=by simp [dropOw,h]
theorem vok_drop {cx:Cx} {ow:Ow} {vw:Bool} {b:Nat} (id:Nat) (h:VOK cx ow vw b):VOK cx (dropOw ow id) vw b:=by
  refine ⟨?_,h.2⟩;rcases h.1 with e | ⟨v,j,e⟩
  · exact .inl (by simp [dropOw,e])
  · by_cases q:j=id
    · exact .inl (by subst q;exact dropOw_in e)
    · exact .inr ⟨v,j,by rw [dropOw_keep e q];exact e⟩
theorem row_drop {cx:Cx} {w:World} {μ:Nat→Option Vm.Loc} {ow:Ow} {vw:Bool} {id j:Nat} {xs:List V} {k:Kd} (hj:j≠id) (h:RowOK cx w μ ow vw j xs k):RowOK cx w μ (dropOw ow id) vw j xs k:=by
  obtain ⟨l,h1,h2,h3⟩:=h;refine ⟨l,h1,h2,h3.imp (fun z=>z) fun ⟨a1,a2,bl,a3,a4,a5⟩=>⟨a1,(dropOw_keep a2 hj).trans a2,bl,a3,?_,a5⟩⟩;cases k with
  | flat=>exact a4
  | thin=>exact a4
  | deep | part=>exact ⟨a4.1,fun b hb=>(dropOw_keep (a4.2 b hb) hj).trans (a4.2 b hb)⟩
  | shal=>exact fun b hb=>vok_drop id (a4 b hb)
  | mix=>exact fun b hb=>vok_drop id (a4 b hb)
theorem eqStrSS_con (a b:List (List ByteArray)) (ha:a.length≤1048576) (has:∀l∈a,l.length≤1048576):Con Try.prog 11 [.sl (a.map fun l=>V.sl (l.map V.str)),.sl (b.map fun l=>V.sl (l.map V.str))] [] (.bool (decide (a=b))) []:=by
 refine v_con [.tmp 4] [] Try.func11 rfl rfl rfl (by simp [Try.ntmps11]) ?_;intro Q0 n0 r0;simp only [Try.ntmps11,envFrom,Nat.reduceAdd];have T:=Tys.mk (ai Ty.t3 (ai Ty.t4 (ai Ty.t9 (ai Ty.t29 Ty.t66))));have F:=Fc.mk True.intro;refine yR [0,1] ⟨?_⟩;refine v_seq ?_;intros;refine yR [0,1,10] ⟨?_⟩;refine v_condS _ rfl ?_ ?_
 ·intro hc0;refine yR [4] ⟨?_⟩;refine zr ⟨?_⟩;exact ret_pure rfl (by rw [decide_eq_false (fun h=>by subst h;simp at hc0)]) (.inl rfl)
 ·intro hc0;have hab:a.length=b.length:=by omega
  refine zn [0,1] ⟨?_⟩;refine v_seq ?_;intros;refine yR [0,1,5] ⟨?_⟩;refine v_block ?_;intros;refine v_loop (fun i=>⟨[(0,.sl (a.map fun l=>V.sl (l.map V.str))),(1,.sl (b.map fun l=>V.sl (l.map V.str))),(5,.int .i64 (Nat.cast i))],[],false,27,0⟩) (fun i=>i≤a.length∧((a=b)↔(a.drop i=b.drop i))) (fun i=>a.length - i) 0 ?_ ?_ ?_
  ·refine weak_of [0,1,5] ?_;simp only [keep_mk,keepE_nil,keepE_cons,look_cons,look_nil,Nat.reduceEqDiff,reduceIte];rfl
  ·exact ⟨qlg _,by simp⟩
  ·rintro i hok9 Q9 n9 e9 r9;obtain ⟨hi1,hR⟩:=hok9;refine v_seq ?_;intros;refine yR [0,1,5,14] ⟨?_⟩;refine v_condS _ rfl ?_ ?_
   ·intro hc1;have hlt:i < a.length:=by omega
    obtain ⟨x,hx⟩:∃x,a[i]? =some x:=⟨a[i],qla hlt⟩;obtain ⟨y,hy⟩:∃y,b[i]? =some y:=⟨b[i],qla (by omega)⟩;have hstep:=eq_drop hab hx hy;have hlx:x.length≤1048576:=has x (qlb hx);refine zn [0,1,5] ⟨?_⟩;refine v_seq ?_;intros;refine v_block ?_;intros;refine v_seq ?_;intro Q15 n15 e15 r15;refine v_draw (by kernel_rfl) ?_;intro K16 q16 k16;show aAny _ _ _ _ 10 (Array.replicate 10 false) _;have F:=Fc.mk (ai (gdm hx) (gdm hy));refine zdMove q16 true 0 17 ?_;refine zdMove q16 true 1 18 ?_;refine zdIndexAddr q16 true 2 19 ?_;refine zdLoad q16 true 3 20 ?_;refine zdMove q16 true 4 21 ?_;refine zdMove q16 true 5 22 ?_;refine zdIndexAddr q16 true 6 23 ?_;refine zdLoad q16 true 7 24 ?_;refine zoc 8 (eqStringS_con x y hlx) ⟨?_⟩;refine zdUnOp q16 true 9 26 ?_;refine aAny_done (by kernel_rfl) ?_;refine k16 _ ?_;refine n15 _ _ (weak_keep [0,1,5,26] _) ?_;refine zk ⟨?_⟩;refine v_condS _ rfl ?_ ?_
    ·intro hc2;refine yR [4] ⟨?_⟩;refine zr ⟨?_⟩;exact ret_pure rfl (by rw [decide_eq_false (fun h=>hc2 (hstep.1 (hR.1 h)).1)]) (.inl rfl)
    ·intro hc2;refine zn [0,1,5] ⟨?_⟩;refine yV ⟨?_⟩;refine n9 _ (i+1) ?_ ?_ ?_
     ·refine weak_of [0,1,5] ?_;simp only [keep_mk,keepE_nil,keepE_cons,look_cons,look_nil,Nat.reduceEqDiff,reduceIte];rfl
     ·exact ⟨by omega,hR.trans (hstep.trans ⟨fun h=>h.2,fun h=>⟨hc2,h⟩⟩)⟩
     ·show _ < _;omega
   ·intro hc1;refine zn [] ⟨?_⟩;refine yR [4] ⟨?_⟩;refine zr ⟨?_⟩;exact ret_pure rfl (by rw [decide_eq_true (hR.2 (by rw [qle (by omega),qle (by omega)]))]) (.inl rfl)
def markTS:Int→List (List ByteArray)→List (List ByteArray)
  | _,[]=>[]
  | k,l::ll=>markStr k l.length::markTS (k+l.length) ll
def totTS:List (List ByteArray)→Int
  | []=>0
  | l::ll=>l.length+totTS ll
theorem totTS_pos:∀ll:List (List ByteArray),0≤totTS ll
  | []=>Int.le_refl _
  | l::ll=>by have:=totTS_pos ll;rw [totTS];omega
theorem markTS_len:∀(ll:List (List ByteArray)) (k:Int),(markTS k ll).length=ll.length
  | [],_=>rfl
  | l::ll,k=>by rw [markTS,ql7,ql7,markTS_len ll]
theorem markStr_zero (k:Int):markStr k 0=[]:=rfl
theorem same_setT {l:List (List ByteArray)} {i:Nat} {x y:List ByteArray} (h:l[i]? =some x) (he:y.isEmpty=x.isEmpty):(l.set i y).map List.isEmpty=l.map List.isEmpty:=by
  obtain ⟨hi,rfl⟩:=qlf.1 h;rw [List.map_set,he];apply List.ext_getElem?;intro j
  by_cases q:i=j
  · subst q;rw [qli (by simpa using hi)];simp [hi]
  · rw [qlx q]
theorem totTS_drop {ll:List (List ByteArray)} {i:Nat} {l:List ByteArray} (h:ll[i]? =some l):totTS (ll.drop i)=l.length+totTS (ll.drop (i+1)):=by
  rw [getElem_drop_cons h,totTS]
theorem totTS_end {ll:List (List ByteArray)} {i:Nat} (h:ll.length≤i):totTS (ll.drop i)=0:=by
  rw [qle h];rfl
theorem news_getT {f:ByteArray→V} {b:Blk} {ll:List (List ByteArray)} {i:Nat} {l:List ByteArray} (h:ll[i]? =some l) (hne:l.isEmpty=false):(b::newsF f ll)[1+i]? =some (.arr (l.map f) .flat):=by
  rw [Nat.add_comm,List.getElem?_cons_succ,newsF,List.getElem?_map,h];simp [rowB,hne]
theorem news_setT {f:ByteArray→V} {b:Blk} {ll:List (List ByteArray)} {i:Nat} {l:List ByteArray} (hne:l.isEmpty=false):(b::newsF f ll).set (1+i) (.arr (l.map f) .flat)=b::newsF f (ll.set i l):=by
  rw [Nat.add_comm,List.set_cons_succ,newsF,newsF,List.map_set];simp [rowB,hne]
theorem markStrSS_con (ll:List (List ByteArray)) (kk:Int) (kd:Kd) (hkd:kd=.flat∨kd=.deep) (hl:ll.length≤1048576) (hls:∀l∈ll,l.length≤1048576) (hk:0≤kk∧kk+totTS ll≤1000000000000):Con Try.prog 18 [.ref 0,.int .i64 kk] [.arr (ll.map (fun l:List ByteArray=>V.sl (l.map V.str))) kd] (.int .i64 (kk+totTS ll)) [.arr ((markTS kk ll).map (fun l:List ByteArray=>V.sl (l.map V.str))) .deep]:=by
 refine v_con [.tmp 4] [(39,[0])] Try.func18 rfl rfl rfl (by simp [Try.ntmps18]) ?_;intro Q0 n0 r0;simp only [Try.ntmps18,envFrom,Nat.reduceAdd];have T:=Tys.mk (ai Ty.t3 (ai Ty.t9 (ai Ty.t29 Ty.t66)));have F:=Fc.mk True.intro;refine yR [0,1] ⟨?_⟩;refine v_seq ?_;intro Q2 n2 e2 r2;refine yR [0,1,5] ⟨?_⟩;refine v_block ?_;intros;refine v_loop (fun p=>⟨[(0,.ref 0),(1,.int .i64 p.2.1),(5,.int .i64 (Nat.cast p.1))],(.arr (rowsF 1 ll) .mix::newsF V.str p.2.2),false,19,0⟩) (fun p=>p.1≤ll.length∧0≤p.2.1∧p.2.2.length=ll.length∧p.2.1+totTS (ll.drop p.1)=kk+totTS ll∧p.2.2.map List.isEmpty=ll.map List.isEmpty∧p.2.2.drop p.1=ll.drop p.1∧p.2.2.take p.1++markTS p.2.1 (ll.drop p.1)=markTS kk ll) (fun p=>ll.length - p.1) ((0,kk,ll):Nat×Int×List (List ByteArray)) ?_ ?_ ?_
 ·refine weak_trans (weak_keep [0,1,5] _) ?_;simp only [keep_mk,keepE_nil,keepE_cons,look_cons,look_nil,Nat.reduceEqDiff,reduceIte];exact weak_open (f:=V.str) 0 ll kd rfl hkd rfl (fun _=>rfl)
 ·exact ⟨qlg _,hk.1,rfl,by simp,rfl,rfl,by simp⟩
 ·rintro ⟨i,m,cur⟩ hok5 Q5 n5 e5 r5;obtain ⟨hi1,hm0,hL,hK,hE,hD,hM⟩:=hok5;simp only [] at hi1 hm0 hL hK hE hD hM⊢;refine v_seq ?_;intros;refine yR [0,1,5,9] ⟨?_⟩;refine v_condS _ rfl ?_ ?_
  ·intro hc0;rw [rowsF_len] at hc0;have hlt:i < ll.length:=by omega
   obtain ⟨l,hx⟩:∃l,ll[i]? =some l:=⟨ll[i],qla hlt⟩;have hll:=hls l (qlb hx);have htd:=totTS_drop hx;have hpos:=totTS_pos (ll.drop (i+1));have hcx:cur[i]? =some l:=by have h:=congrArg (fun z=>z[0]?) hD;simpa [List.getElem?_drop,hx] using h
   rcases Bool.eq_false_or_eq_true l.isEmpty with he | he
   ·skip;have hrow:=row_get0 hx he;have hl0:l=[]:=List.isEmpty_iff.1 he;refine zn [0,1,5] ⟨?_⟩;refine v_seq ?_;intro Q9 n9 e9 r9;refine v_block ?_;intro Q10 n10 x10 e10 r10;refine v_region ?_;intro K11 k11;have F:=Fc.mk (ai @rowsF_len hrow);refine zMove ⟨?_⟩;refine zMove ⟨?_⟩;refine v_op ?_;intro K k;simp only [zE,zL,zN,aStepM,optable,set_some,Nat.reduceEqDiff,reduceIte,Nat.reduceLT,implies_true,forall_const,reduceCtorEq,V.ofValue,V.ofScalar,V.un,V.gd,aExec,aop,List.mem_cons,List.not_mem_nil,or_false,forall_eq_or_imp,forall_eq,aIndexAddr,row_mk,Blk.row,Go.Vm.V.cells,List.forall_mem_map,List.length_map,Int.toNat_natCast,Int.reduceToNat,TypeDesc.slice.injEq,Nat.reduceAdd,Nat.reduceLeDiff,Nat.reduceMul,Try.underlying29,Ty.c29,Ty.a29,Try.underlying66,Ty.c66,Ty.a66,rowsF_len,hrow];repeat (refine ai (by first | omega | (exact rowsF_cell1 ll 1) | (intros;omega) | (intros;simp_all;done)) ?_)
    refine k _ ?_;clear k K;refine zLoad ⟨?_⟩;refine zMove ⟨?_⟩;refine v_op ?_;intro K k;simp only [zE,zM,aStepM,optable,set_some,Nat.reduceEqDiff,reduceIte,Nat.reduceLT,implies_true,forall_const,reduceCtorEq,V.ofValue,V.ofScalar,V.un,V.gd,aExec,lentIds,lendOf,Try.underlying3,Ty.c3,Ty.a3,Ty.b3,Ty.s3,Try.underlying9,Ty.c9,Ty.a9,Ty.b9,Ty.s9,Try.underlying66,Ty.c66,Ty.a66,Ty.b66,Ty.s66];repeat (refine ai (by first | rfl | (intros;simp_all;done)) ?_)
    first | refine aCall_lent _ (markStringS_con l m hll (by omega)) (by first | rfl | (simp only [toArgs,toArg,toCell,toCells,idx,row_mk,List.getElem?_cons_zero,List.getElem?_cons_succ,Option.bind_some,Option.map_some,Blk.row,fillK_mix,thK_mix,flat_mix,deep_mix,thin_mix,shal_mix,cond_true,List.map_take];done) | (simp [toArgs,toArg,toCell,toCells,idx,row_mk,Blk.row,fillK_mix,thK_mix,flat_mix,deep_mix,thin_mix,shal_mix,Nat.beq_refl];done)) hO ⟨by simp [Blk.kindIs,fillK_mix,thK_mix],by simp⟩ (by first | exact .inl rfl | exact .inr (by simp [Blk.kindIs])) ⟨rfl,by simp [Blk.kindIs,fillK_fd,thK_fd]⟩ ?_ | refine aCall_new (markStr0_con m) (by first | rfl | (simp only [toArgs,toArg,toCell,toCells,idx,row_mk,List.getElem?_cons_zero,List.getElem?_cons_succ,Option.bind_some,Option.map_some,Blk.row,fillK_mix,thK_mix,flat_mix,deep_mix,thin_mix,shal_mix,cond_true,List.map_take];done) | (simp [toArgs,toArg,toCell,toCells,idx,row_mk,Blk.row,fillK_mix,thK_mix,flat_mix,deep_mix,thin_mix,shal_mix,Nat.beq_refl];done)) (by first | exact .inl ⟨rfl,by simp [Blk.kindIs,fillK_fd,thK_fd]⟩ | exact .inr (by simp [V.cold])) ?_
    refine k _ ?_;clear k K;simp only [zY,zW,set_some,Nat.reduceEqDiff,reduceIte,rho_one,rho_s,V.ren,V.renL,List.set_cons_zero,List.set_cons_succ,Nat.reduceAdd];refine zAssign ⟨?_⟩;refine k11 _ ?_;refine n10 _ ?_;refine n9 _ _ (weak_keep [0,1,5] _) ?_;refine zk ⟨?_⟩;refine yV ⟨?_⟩;refine n5 _ (i+1,m,cur) ?_ ?_ ?_
    ·refine weak_of [0,1,5] ?_;simp only [keep_mk,keepE_nil,keepE_cons,look_cons,look_nil,Nat.reduceEqDiff,reduceIte];rfl
    ·exact ⟨hlt,hm0,hL,by rw [←hK,htd,hl0];simp,hE,by have h:=congrArg (List.drop 1) hD;simpa [List.drop_drop,Nat.add_comm] using h,by rw [←hM,getElem_drop_cons hx,hl0,markTS];show cur.take (i+1)++markTS m _=_;rw [List.take_add_one,hcx,hl0];simp [markStr_zero]⟩
    ·show _ < _;show ll.length - (i+1) < ll.length - i;omega
   ·skip;have hrow:=row_get1 hx he;have hO:=news_getT (f:=V.str) (b:=.arr (rowsF 1 ll) .mix) hcx he;have hmne:(markStr m l.length).isEmpty=false:=by cases l with | nil=>cases he | cons x l=>simp [markStr,markG,List.range_succ]
    have hset:=news_setT (f:=V.str) (b:=.arr (rowsF 1 ll) .mix) (ll:=cur) (i:=i) hmne;refine zn [0,1,5] ⟨?_⟩;refine v_seq ?_;intro Q13 n13 e13 r13;refine v_block ?_;intro Q14 n14 x14 e14 r14;refine v_region ?_;intro K15 k15;have F:=Fc.mk (ai @rowsF_len hrow);refine zMove ⟨?_⟩;refine zMove ⟨?_⟩;refine v_op ?_;intro K k;simp only [zE,zL,zN,aStepM,optable,set_some,Nat.reduceEqDiff,reduceIte,Nat.reduceLT,implies_true,forall_const,reduceCtorEq,V.ofValue,V.ofScalar,V.un,V.gd,aExec,aop,List.mem_cons,List.not_mem_nil,or_false,forall_eq_or_imp,forall_eq,aIndexAddr,row_mk,Blk.row,Go.Vm.V.cells,List.forall_mem_map,List.length_map,Int.toNat_natCast,Int.reduceToNat,TypeDesc.slice.injEq,Nat.reduceAdd,Nat.reduceLeDiff,Nat.reduceMul,Try.underlying29,Ty.c29,Ty.a29,Try.underlying66,Ty.c66,Ty.a66,rowsF_len,hrow];repeat (refine ai (by first | omega | (exact rowsF_cell1 ll 1) | (intros;omega) | (intros;simp_all;done)) ?_)
    refine k _ ?_;clear k K;refine zLoad ⟨?_⟩;refine zMove ⟨?_⟩;refine v_op ?_;intro K k;simp only [zE,zM,aStepM,optable,set_some,Nat.reduceEqDiff,reduceIte,Nat.reduceLT,implies_true,forall_const,reduceCtorEq,V.ofValue,V.ofScalar,V.un,V.gd,aExec,lentIds,lendOf,Try.underlying3,Ty.c3,Ty.a3,Ty.b3,Ty.s3,Try.underlying9,Ty.c9,Ty.a9,Ty.b9,Ty.s9,Try.underlying66,Ty.c66,Ty.a66,Ty.b66,Ty.s66];repeat (refine ai (by first | rfl | (intros;simp_all;done)) ?_)
    first | refine aCall_lent _ (markStringS_con l m hll (by omega)) (by first | rfl | (simp only [toArgs,toArg,toCell,toCells,idx,row_mk,List.getElem?_cons_zero,List.getElem?_cons_succ,Option.bind_some,Option.map_some,Blk.row,fillK_mix,thK_mix,flat_mix,deep_mix,thin_mix,shal_mix,cond_true,List.map_take];done) | (simp [toArgs,toArg,toCell,toCells,idx,row_mk,Blk.row,fillK_mix,thK_mix,flat_mix,deep_mix,thin_mix,shal_mix,Nat.beq_refl];done)) hO ⟨by simp [Blk.kindIs,fillK_mix,thK_mix],by simp⟩ (by first | exact .inl rfl | exact .inr (by simp [Blk.kindIs])) ⟨rfl,by simp [Blk.kindIs,fillK_fd,thK_fd]⟩ ?_ | refine aCall_new (markStr0_con m) (by first | rfl | (simp only [toArgs,toArg,toCell,toCells,idx,row_mk,List.getElem?_cons_zero,List.getElem?_cons_succ,Option.bind_some,Option.map_some,Blk.row,fillK_mix,thK_mix,flat_mix,deep_mix,thin_mix,shal_mix,cond_true,List.map_take];done) | (simp [toArgs,toArg,toCell,toCells,idx,row_mk,Blk.row,fillK_mix,thK_mix,flat_mix,deep_mix,thin_mix,shal_mix,Nat.beq_refl];done)) (by first | exact .inl ⟨rfl,by simp [Blk.kindIs,fillK_fd,thK_fd]⟩ | exact .inr (by simp [V.cold])) ?_
    refine k _ ?_;clear k K;simp only [zY,zW,set_some,Nat.reduceEqDiff,reduceIte,rho_one,rho_s,V.ren,V.renL,List.set_cons_zero,List.set_cons_succ,Nat.reduceAdd];refine zAssign ⟨?_⟩;refine k15 _ ?_;refine n14 _ ?_;refine n13 _ _ (weak_keep [0,1,5] _) ?_;refine zk ⟨?_⟩;refine yV ⟨?_⟩;refine n5 _ (i+1,m+l.length,cur.set i (markStr m l.length)) ?_ ?_ ?_
    ·refine weak_of [0,1,5] ?_;simp only [keep_mk,keepE_nil,keepE_cons,look_cons,look_nil,Nat.reduceEqDiff,reduceIte];first | rfl | (simp only [hset];rfl)
    ·exact ⟨hlt,by show 0≤m+(l.length:Int);omega,by show (cur.set i _).length=_;rw [qlp];exact hL,by show m+(l.length:Int)+totTS (ll.drop (i+1))=_;rw [←hK,htd];omega,by show (cur.set i _).map List.isEmpty=_;rw [same_setT hcx (by rw [hmne,he])];exact hE,by show (cur.set i _).drop (i+1)=_;rw [List.drop_set_of_lt (by omega)];have h:=congrArg (List.drop 1) hD;simpa [List.drop_drop,Nat.add_comm] using h,by show (cur.set i _).take (i+1)++markTS (m+l.length) _=_;rw [←hM,getElem_drop_cons hx,markTS,set_cons_eq (by omega)]⟩
    ·show _ < _;show ll.length - (i+1) < ll.length - i;omega
  ·intro hc0;rw [rowsF_len] at hc0;refine zx ⟨?_⟩;apply n2
   ·apply weak_trans (weak_keep [1] _);simp only [keep_mk,keepE_nil,keepE_cons,look_cons,look_nil,Nat.reduceEqDiff,reduceIte];have hend:i=ll.length:=by omega
    rw [show rowsF 1 ll=rowsF 1 cur from rowsF_same _ _ _ hE.symm];exact weak_close (A:=[.arr (rowsF 1 cur) .mix]) 0 cur rfl rfl
   try simp only [atSlot_cons,atSlot_nil,Nat.reduceEqDiff,reduceIte,List.set_cons_zero,List.set_cons_succ]
   refine yR [4] ⟨?_⟩;refine zr ⟨?_⟩;have hcur:cur=markTS kk ll:=by have h:=hM;rw [qle (by omega),markTS,qma,List.take_of_length_le (by rw [hL];omega)] at h;exact h
   have hmk:m=kk+totTS ll:=by rw [←hK,totTS_end (by omega)];omega
   rw [←hcur,←hmk];exact ret_lent rfl (by simp) rfl rfl (by simp [Blk.kindIs]) (.inl rfl)
theorem heldStrSS_con (ll:List (List ByteArray)) (kk:Int) (hl:ll.length≤1048576) (hls:∀l∈ll,l.length≤1048576) (hk:0≤kk∧kk+totTS ll≤1000000000000):Con Try.prog 19 [.sl ((markTS kk ll).map (fun l:List ByteArray=>V.sl (l.map V.str))),.int .i64 kk] [] (.int .i64 (kk+totTS ll)) []:=by
 refine v_con [.tmp 4] [] Try.func19 rfl rfl rfl (by simp [Try.ntmps19]) ?_;intro Q0 n0 r0;simp only [Try.ntmps19,envFrom,Nat.reduceAdd];have T:=Tys.mk (ai Ty.t3 (ai Ty.t9 (ai Ty.t29 Ty.t66)));have F:=Fc.mk True.intro;refine yR [0,1] ⟨?_⟩;refine v_seq ?_;intros;refine yR [0,1,5] ⟨?_⟩;refine v_block ?_;intros;refine v_loop (fun p=>⟨[(0,.sl ((markTS kk ll).map (fun l:List ByteArray=>V.sl (l.map V.str)))),(1,.int .i64 p.2),(5,.int .i64 (Nat.cast p.1))],[],false,21,0⟩) (fun p=>p.1≤ll.length∧0≤p.2∧p.2+totTS (ll.drop p.1)=kk+totTS ll∧(markTS kk ll).drop p.1=markTS p.2 (ll.drop p.1)) (fun p=>ll.length - p.1) ((0,kk):Nat×Int) ?_ ?_ ?_
 ·refine weak_of [0,1,5] ?_;simp only [keep_mk,keepE_nil,keepE_cons,look_cons,look_nil,Nat.reduceEqDiff,reduceIte];rfl
 ·exact ⟨qlg _,hk.1,rfl,rfl⟩
 ·rintro ⟨i,m⟩ hok5 Q5 n5 e5 r5;obtain ⟨hi1,hm0,hK,hD⟩:=hok5;simp only [] at hi1 hm0 hK hD⊢;refine v_seq ?_;intros;refine yR [0,1,5,9] ⟨?_⟩;refine v_condS _ rfl ?_ ?_
  ·intro hc0;rw [markTS_len] at hc0;have hlt:i < ll.length:=by omega
   obtain ⟨l,hx⟩:∃l,ll[i]? =some l:=⟨ll[i],qla hlt⟩;have hll:=hls l (qlb hx);have htd:=totTS_drop hx;have hpos:=totTS_pos (ll.drop (i+1));have hD2:=hD;rw [getElem_drop_cons hx,markTS] at hD2;have hg:(markTS kk ll)[i]? =some (markStr m l.length):=by have h:=congrArg (fun z=>z[0]?) hD2;simpa [List.getElem?_drop] using h
   refine zn [0,1,5] ⟨?_⟩;refine v_seq ?_;intros;refine v_block ?_;intros;have F:=Fc.mk (ai (gdm hg) @markTS_len);refine yRc [0,1,5] (heldStringS_con m l.length hll (by omega)) ⟨?_⟩;refine yR [0,1,5,19] ⟨?_⟩;refine v_cond _ rfl ?_ ?_
   ·intro hc1;exfalso;first | (simp at hc1;omega) | (simp at hc1;done)
   ·intro hc1;try simp only [zC,reduceCtorEq] at hc1
    refine zn [0,1,5] ⟨?_⟩;refine yV ⟨?_⟩;refine n5 _ (i+1,m+l.length) ?_ ?_ ?_
    ·refine weak_of [0,1,5] ?_;simp only [keep_mk,keepE_nil,keepE_cons,look_cons,look_nil,Nat.reduceEqDiff,reduceIte];rfl
    ·exact ⟨hlt,by show 0≤m+(l.length:Int);omega,by show m+(l.length:Int)+totTS (ll.drop (i+1))=_;rw [←hK,htd];omega,by show (markTS kk ll).drop (i+1)=markTS (m+l.length) _;have h:=congrArg (List.drop 1) hD2;simpa [List.drop_drop,Nat.add_comm] using h⟩
    ·show _ < _;show ll.length - (i+1) < ll.length - i;omega
  ·intro hc0;rw [markTS_len] at hc0;refine zn [1] ⟨?_⟩;refine yR [4] ⟨?_⟩;refine zr ⟨?_⟩;exact ret_pure rfl (by rw [←hK,totTS_end (by omega)];congr 1;omega) (.inl rfl)
end Go.Proofs.Ytmhaafinhpopmaa
