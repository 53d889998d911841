/- What functions compute. No condition. -/
import Derived.Test.YtmhaafinhpopmaaGreatX28
import Derived.Test.YtmhaafinhpopmaaGreatX23
set_option linter.unusedSimpArgs false
set_option linter.unusedVariables false
set_option linter.defProp false
namespace Go.Proofs.YtmhaafinhpopmaaGreat
open Go Go.Vm
set_option maxHeartbeats 8000000
theorem totTS_le {m:Nat}:∀{ll:List (List ByteArray)},(∀l∈ll,l.length≤m)→totTS ll≤(m * ll.length:Nat)
  | [],_=>Int.le_refl _
  | l::ll,h=>by
    have h1:=h l (qle ..);have h2:=totTS_le fun x hx=>h x (qlg _ hx)
    rw [totTS,qmf,Nat.mul_succ];omega
theorem oth_facts (n:Int) (ss:List TS) (fl:List TA) (node:Int) (need:List Int) (limit:Int):(othR n ss fl node need limit).length≤1048576∧(∀l∈othR n ss fl node need limit,l.length≤1048576)∧0≤totTS (othR n ss fl node need limit)∧totTS (othR n ss fl node need limit)≤240:=by
  rw [othR];split
  · rename_i h
    rw [othB,qlo] at h;obtain ⟨h1,h2⟩:=h;have h20:¬20 < (othAll n ss fl node need limit).length:=by simpa using h2
    rw [qlo] at h1;have hd:=(ask_facts h1.1).1;have hl:=@oth_len n ss fl node need limit hd.hfl;have ht:=totTS_le hl;exact ⟨by omega,fun l hl'=>ql4 (hl l hl') (by decide),totTS_pos _,by omega⟩
  · exact ⟨by simp,(fun l hl=>nomatch hl),Int.le_refl _,by decide⟩
theorem insPos_spec (lt:Int→Int→Bool) (x:Int) (p:List Int):∀k,(∀i,insPos lt x p k≤i→i < k→lt x (p.getD i 0)=true)∧(0 < insPos lt x p k→lt x (p.getD (insPos lt x p k - 1) 0)=false)
  | 0=>⟨fun i h1 h2=>absurd h2 (Nat.not_lt_zero _),fun h=>absurd h (Nat.lt_irrefl 0)⟩
  | k + 1=>by
    obtain ⟨h1,h2⟩:=insPos_spec lt x p k;rw [insPos];split
    · rename_i h
      refine ⟨fun i a b=> ?_,h2⟩
      by_cases e:i=k
      · subst e;exact h
      · exact h1 i a (by omega)
    · rename_i h
      exact ⟨fun i a b=>absurd b (by omega),fun _=>by rw [Nat.add_sub_cancel];simpa using h⟩
theorem ins_sorted {key:Int→Int} {lt:Int→Int→Bool} (hlt:∀a b,lt a b=decide (key a < key b)) {p:List Int} {x:Int} (hp:p.Pairwise fun a b=>key a≤key b):(insR lt p x).Pairwise fun a b=>key a≤key b:=by
  obtain ⟨h1,h2⟩:=insPos_spec lt x p p.length;have hle:=insPos_le lt x p p.length;rw [insR];generalize insPos lt x p p.length=j at h1 h2 hle⊢;have ha:∀a∈p.take j,key a≤key x:=by
    intro a ha;obtain ⟨i,hi,e⟩:=List.mem_iff_getElem.1 ha;have hi2:=hi;rw [qls] at hi2;rw [List.getElem_take] at e;have h3:=h2 (by omega);rw [hlt,decide_eq_false_iff_not,qld,qla (by omega),Option.getD_some] at h3;have h4:key (p[i]'(by omega))≤key (p[j - 1]'(by omega)):=by
      by_cases q:i=j - 1
      · subst q;exact Int.le_refl _
      · exact List.pairwise_iff_getElem.1 hp i (j - 1) (by omega) (by omega) (by omega)
    rw [←e];omega
  have hb:∀b∈p.drop j,key x≤key b:=by
    intro b hb;obtain ⟨i,hi,e⟩:=List.mem_iff_getElem.1 hb;have hi2:=hi;rw [qmh] at hi2;rw [List.getElem_drop] at e;have h3:=h1 (j+i) (by omega) (by omega);rw [hlt,decide_eq_true_eq,qld,qla (by omega),Option.getD_some] at h3;rw [←e];omega
  have hq:=hp;rw [←List.take_append_drop j p,List.pairwise_append] at hq;refine List.pairwise_append.2 ⟨hq.1,List.pairwise_cons.2 ⟨hb,hq.2.1⟩,fun a h b hb'=> ?_⟩;rcases ql0.1 hb' with rfl | hb'
  · exact ha a h
  · exact hq.2.2 a h b hb'
theorem isort_sorted {key:Int→Int} {lt:Int→Int→Bool} (hlt:∀a b,lt a b=decide (key a < key b)) (l:List Int):(isort lt l).Pairwise fun a b=>key a≤key b:=by
  have key2:∀(l acc:List Int),(acc.Pairwise fun a b=>key a≤key b)→(l.foldl (insR lt) acc).Pairwise fun a b=>key a≤key b:=by
    intro l
    induction l with
    | nil=>intro acc h;exact h
    | cons x l ih=>intro acc h;exact ih _ (ins_sorted hlt h)
  exact key2 l [] List.Pairwise.nil
def kindAt (fl:List TA) (i:Int):Int:=match fl[i.toNat]? with | some a=>a.2.1 | none=>0
theorem kind_at {fl:List TA} {k:Nat} {a:TA} (h:fl[k]? =some a):kindAt fl (k:Int)=a.2.1:=by rw [kindAt,ql2,h]
theorem pick_same {fl:List TA}:∀(order:List Int) (s:List Int×List Int),(∀i∈order,∃a,fl[i.toNat]? =some a)→order.foldl (pickF fl) s=order.foldl (pickG (kindAt fl)) s
  | [],_,_=>rfl
  | i ::l,s,h=>by
    obtain ⟨a,ha⟩:=h i (qle ..);have e:pickF fl s i=pickG (kindAt fl) s i:=by
      rw [pickF,pickG,kindAt,ha];rfl
    rw [List.foldl_cons,List.foldl_cons,e,pick_same l _ fun j hj=>h j (qlg _ hj)]
theorem cntK_ids {α:Type} (kd:α→Int) (k:Int):∀l:List α,cntK kd l k=cntK (fun x:Int=>x) (l.map kd) k
  | []=>rfl
  | a::l=>by rw [cntK_cons,List.map_cons,cntK_cons,cntK_ids kd k l]
theorem pick_idx {fl z:List TA} (h:z.Sublist fl):∃js:List Int,js.Nodup∧(∀i∈js,∃(k:Nat) (a:TA),i=(k:Int)∧fl[k]? =some a∧a∈z)∧∀{β:Type} (g:TA→β) (g':Int→β),(∀(k:Nat) (a:TA),fl[k]? =some a→g' (k:Int)=g a)→js.map g'=z.map g:=by
  obtain ⟨is,e,hp⟩:=List.sublist_eq_map_getElem h;refine ⟨is.map fun i=>((i.val:Nat):Int),?_,fun i hi=> ?_,fun g g' hg=> ?_⟩
  · exact List.Pairwise.map _ (fun a b h q=>by have:=Fin.lt_def.1 h;omega) hp
  · obtain ⟨f,hf,rfl⟩:=qma.1 hi
    refine ⟨f.val,fl[f.val],rfl,qla f.isLt,?_⟩;rw [e];exact qma.2 ⟨f,hf,rfl⟩
  · rw [e,List.map_map,List.map_map]
    refine List.map_congr_left fun f _=> ?_
    exact hg f.val fl[f.val] (qla f.isLt)
theorem fold_ge {α:Type} {f:α→Int}:∀(l:List α) (a:Int),a≤l.foldl (fun m x=>max m (f x)) a∧∀x∈l,f x≤l.foldl (fun m x=>max m (f x)) a
  | [],a=>⟨Int.le_refl _,fun x hx=>by cases hx⟩
  | y::l,a=>by
    obtain ⟨h1,h2⟩:=fold_ge (f:=f) l (max a (f y));rw [List.foldl_cons];refine ⟨by omega,fun x hx=> ?_⟩;rcases ql0.1 hx with rfl | hx
    · omega
    · exact h2 x hx
theorem need_sum {need:List Int} (hl:need.length=4):need.sum=need.getD 0 0+need.getD 1 0+need.getD 2 0+need.getD 3 0:=by
  match need,hl with
  | [a,b,c,d],_=>simp;omega
theorem zero_sum {l:List Int} (h:zeroL l=true):l.sum=0:=by
  induction l with
  | nil=>rfl
  | cons x l ih=>
    rw [zeroL,List.all_cons,qlo,decide_eq_true_eq] at h;rw [List.sum_cons,h.1,ih h.2];rfl
structure ChoiceFacts (n:Int) (ss:List TS) (fl:List TA) (node:Int) (need:List Int) (limit:Int) (y:List ByteArray):Prop where
  zero:zeroL (choiceL n ss fl node need).1=true
  len:(choiceL n ss fl node need).2.length=y.length
  sum:(y.length:Int)=need.sum
  att:y≠[]→attR n ss fl node y=true
  lim:attV fl (tmL n ss node) y≤limit
  more:mostOf fl (tmL n ss node) (choiceL n ss fl node need).2≤attV fl (tmL n ss node) y
theorem choice_ok {n:Int} {ss:List TS} {fl:List TA} {node:Int} {need:List Int} {limit:Int} {y:List ByteArray} (hd:DsFacts n ss fl) (hask:askD n ss fl node=true) (hn:need.length=4∧∀x∈need,0≤x∧x≤6) (hlim:0≤limit) (hy:y∈othAll n ss fl node need limit):ChoiceFacts n ss fl node need limit y:=by
  obtain ⟨ts,hts⟩:∃ts,ts=tmL n ss node:=⟨_,rfl⟩;rw [othAll,←hts,usN] at hy;have hkf:∀a∈fl,0≤a.2.1∧a.2.1≤3:=fun a ha=>(hd.hap a ha).1
  obtain ⟨z,z1,z2,z3⟩:=full_mem (f:=fun a:TA=>(a.1,a.2.1)) (fun a ha=>hkf a (us_sub ha)) hn.1 hy;have zfl:z.Sublist fl:=z1.trans (List.filter_sublist);obtain ⟨js,j1,j2,j3⟩:=pick_idx zfl;have hnn:∀j:Int,0≤need.getD j.toNat 0:=by
    intro j;rw [qld];cases q:need[j.toNat]? with
    | none=>exact Int.le_refl _
    | some v=>exact (hn.2 v (qlb q)).1
  have hus:∀a∈z,availB a=true∧0≤Tm.at_ ts a.2.2.1.toNat∧Tm.at_ ts a.2.2.1.toNat≤limit:=by
    intro a ha;have h:=(List.mem_filter.1 (z1.subset ha)).2;rw [usP,inR,qlo,qlo,decide_eq_true_eq,decide_eq_true_eq] at h;exact h
  have hkey:∀(k:Nat) (a:TA),fl[k]? =some a→keyOf fl ts (k:Int)=Tm.at_ ts a.2.2.1.toNat:=fun k a h=>by rw [keyOf,ql2,h]
  have hord:∀i∈js,i∈readyL fl ts:=by
    intro i hi;obtain ⟨k,a,rfl,h2,h3⟩:=j2 i hi;obtain ⟨u1,u2,_⟩:=hus a h3;have hp:readyP fl ts a=true:=by rw [readyP,u1,decide_eq_true u2];rfl
    have hk:=(qlc.1 h2).1;exact isort_mem.2 (ready_in h2 hp _ hk (qlu _))
  have hcnt:∀j:Int,0≤j∧j≤3→cntK (kindAt fl) js j=need.getD j.toNat 0:=by
    intro j hj;rw [cntK_ids,j3 (fun a=>a.2.1) (kindAt fl) fun k a h=>kind_at h,←cntK_ids];exact z3 j hj
  have hok:∀i∈readyL fl ts,∃a,fl[i.toNat]? =some a:=by
    intro i hi;obtain ⟨k,a,rfl,_,h3,_⟩:=readyL_mem hi;exact ⟨a,by rw [ql2];exact h3⟩
  have hkk:∀i∈readyL fl ts,0≤kindAt fl i∧kindAt fl i≤3:=by
    intro i hi;obtain ⟨k,a,rfl,_,h3,_⟩:=readyL_mem hi;rw [kind_at h3];exact hkf a (qlb h3)
  have hsrt:(readyL fl ts).Pairwise fun i j=>keyOf fl ts i≤keyOf fl ts j:=isort_sorted (fun a b=>rfl) _
  obtain ⟨g1,g2,g3⟩:=greedy_best (kd:=kindAt fl) (key:=keyOf fl ts) hn.1 hnn hkk hsrt j1 hord hcnt;have hch:choiceL n ss fl node need=(readyL fl ts).foldl (pickG (kindAt fl)) (need,[]):=by rw [choiceL,pickL,←hts];exact pick_same _ _ hok
  rw [←hch] at g1 g2 g3;have hjz:js.length=z.length:=by
    have:=congrArg List.length (j3 (fun _=>()) (fun _=>()) fun _ _ _=>rfl);simpa using this
  have hyz:y.length=z.length:=by rw [z2,ql7]
  have hnames:js.map (nameAt fl)=y:=by rw [z2];exact j3 _ _ fun k a h=>by rw [nameAt,ql2,h]
  have hone:∀i∈js,attOne fl ts (nameAt fl i)=keyOf fl ts i∧0≤keyOf fl ts i∧keyOf fl ts i≤limit:=by
    intro i hi;obtain ⟨k,a,rfl,h2,h3⟩:=j2 i hi;obtain ⟨_,u2,u3⟩:=hus a h3;have hk:=(qlc.1 h2).1;rw [att_name hd.hinc hk,hkey k a h2];exact ⟨rfl,u2,u3⟩
  have honeY:∀s∈y,0≤attOne fl ts s∧attOne fl ts s≤limit:=by
    intro s hs;rw [←hnames] at hs;obtain ⟨i,hi,rfl⟩:=qma.1 hs;obtain ⟨e1,e2,e3⟩:=hone i hi;rw [e1];exact ⟨e2,e3⟩
  have hinc:y.Pairwise fun a b=>strLt a b=true:=by
    rw [z2,List.pairwise_map];exact (hd.hinc.sublist zfl).imp fun h=>h
  refine ⟨g1,by omega,?_,fun hne=> ?_,?_,?_⟩
  · rw [need_sum hn.1]
    have h:=cntK_len (kd:=fun a:TA=>a.2.1) (l:=z) fun a ha=>hkf a (zfl.subset ha)
    have c0:=z3 0 (by omega);have c1:=z3 1 (by omega);have c2:=z3 2 (by omega);have c3:=z3 3 (by omega);rw [show (0:Int).toNat=0 from rfl] at c0;rw [show (1:Int).toNat=1 from rfl] at c1;rw [show (2:Int).toNat=2 from rfl] at c2;rw [show (3:Int).toNat=3 from rfl] at c3;rw [←c0,←c1,←c2,←c3,hyz];exact h
  · rw [attR,hask,←hts,attB]
    have hch2:chainAt (fun s=>decide (0≤attOne fl ts s)) strLt y 0=true:=chain_ofF (fun s hs=>decide_eq_true (honeY s hs).1) (fun q hq=>by cases hq) hinc;rw [hch2,decide_eq_false (by have:=List.length_pos_iff.2 hne;omega)];rfl
  · rw [←hts,attV]
    exact (fold_bounds y 0 ⟨Int.le_refl _,hlim⟩ fun s hs=>(honeY s hs).2).2
  · rw [←hts,attV]
    have hge:=fold_ge (f:=attOne fl ts) y 0;refine (fold_bounds (f:=keyOf fl ts) _ 0 ⟨Int.le_refl _,hge.1⟩ fun i hi=> ?_).2;obtain ⟨c,hc,hle⟩:=g3 i hi;refine Int.le_trans hle ?_;rw [←(hone c hc).1];exact hge.2 _ (by rw [←hnames];exact qma.2 ⟨c,hc,rfl⟩)
theorem choice_extra {n:Int} {ss:List TS} {fl:List TA} {node:Int} {need:List Int} {limit:Int} {y:List ByteArray} (hask:askD n ss fl node=true) (hnd:need4 need=true) (h:ChoiceFacts n ss fl node need limit y) (hne:y≠[]) :
    attR n ss fl node y=true∧attW n ss fl node y≤limit∧extraB n ss fl node need y=true∧0≤extraV n ss fl node need y:=by
  have ha:=h.att hne;have hl:=List.length_pos_iff.2 hne;have hB:extraB n ss fl node need y=true:=by
    rw [extraB,hask,hnd,ha,h.len,decide_eq_false (show ¬(y.length:Int)=0 by omega),decide_eq_true (rfl:(y.length:Int)=(y.length:Int))];rfl
  refine ⟨ha,by rw [attW,if_pos ha];exact h.lim,hB,?_⟩;rw [extraV,if_pos hB];have:=h.more;omega
theorem oth_nodup {n:Int} {ss:List TS} {fl:List TA} {node:Int} {need:List Int} {limit:Int} (hd:DsFacts n ss fl) (hn:need.length=4):(othAll n ss fl node need limit).Nodup:=by
  rw [othAll,usN];refine full_nodup (f:=fun a:TA=>(a.1,a.2.1)) (fun a ha=>(hd.hap a (us_sub ha)).1) hn ?_;have hs:(usL fl (tmL n ss node) limit).Sublist fl:=List.filter_sublist;exact List.Pairwise.map _ (fun a b h e=>strLt_ne h e) (hd.hinc.sublist hs)
theorem rank_le {n:Int} {ss:List TS} {fl:List TA} {node:Int} {names:List ByteArray} (h:attR n ss fl node names=true):0≤rankV n ss fl node names∧rankV n ss fl node names+(names.length:Int)≤(fl.length:Int):=by
  obtain ⟨ts,hts⟩:∃ts,ts=tmL n ss node:=⟨_,rfl⟩;rw [rankV,if_pos h,←hts];rw [attR,qlo,←hts,attB,qlo] at h;obtain ⟨hask,hch,_⟩:=h;have hd:=(ask_facts hask).1;have hinc:=chain_pair (bf:=strLt) (fun a b c h k=>strLt_trans h k) hch;have hok:=chain_ok hch;have hidx:∀s∈names,∃k:Nat,findA fl s=(k:Int)∧k < fl.length∧nameAt fl (k:Int)=s:=by
    intro s hs;have h0:=of_decide_eq_true (hok s hs);rcases findA_cases fl s with q | ⟨k,x,q1,q2,q3⟩
    · rw [attOne,q,if_pos (by decide)] at h0;omega
    · exact ⟨k,q1,(qlc.1 q2).1,by rw [nameAt,ql2,q2];exact q3⟩
  generalize attW n ss fl node names=far;let R:=(readyL fl ts).filter (rankP fl ts names far);let N:=names.map (findA fl);have hN:N.Nodup:=by
    refine List.pairwise_map.2 (hinc.imp_of_mem fun {a b} ha hb hab e=> ?_);obtain ⟨k,e1,_,e2⟩:=hidx a ha;obtain ⟨j,f1,_,f2⟩:=hidx b hb;have:k=j:=by omega
    subst this;exact strLt_ne hab (e2.symm.trans f2)
  have hR:R.Nodup:=(readyL_nodup fl ts).filter _;have hdis:∀a∈R,∀b∈N,a≠b:=by
    intro a ha b hb e;subst e;obtain ⟨s,hs,hsa⟩:=qma.1 hb;obtain ⟨k,e1,_,e2⟩:=hidx s hs;have h1:=(List.mem_filter.1 ha).2;rw [rankP,qlo] at h1;have h2:nameAt fl a=s:=by rw [←hsa,e1,e2]
    rw [h2] at h1;have h3:inS s names=true:=by
      rw [inS];exact List.any_eq_true.2 ⟨s,hs,by simp⟩
    rw [h3] at h1;exact absurd h1.2 (by decide)
  have hall:(R++N).Nodup:=List.nodup_append.2 ⟨hR,hN,hdis⟩;have hin:∀x∈R++N,x∈(List.range fl.length).map fun k:Nat=>(k:Int):=by
    intro x hx;rcases qll.1 hx with hx | hx
    · obtain ⟨k,a,h1,h2,_⟩:=readyL_mem (List.mem_filter.1 hx).1
      exact qma.2 ⟨k,qmi.2 h2,h1.symm⟩
    · obtain ⟨s,hs,hsa⟩:=qma.1 hx
      obtain ⟨k,e1,e2,_⟩:=hidx s hs;exact qma.2 ⟨k,qmi.2 e2,by rw [←hsa,e1]⟩
  have hlen:=nodup_len hall hin;have hN2:N.length=names.length:=ql7 ..;simp only [List.length_append,List.length_map,List.length_range,hN2] at hlen;show 0≤((R.length:Nat):Int)∧((R.length:Nat):Int)+(names.length:Int)≤(fl.length:Int);omega
theorem pSameTextsE_con (a b:List ByteArray) (ha:a.length≤1048576):Con Tryz.prog 15 [.sl (a.map V.str),.sl (b.map V.str)] [] (.bool (decide (a=b))) []:=by
 refine v_con [.tmp 4] [] Tryz.func15 rfl rfl rfl (by simp [Tryz.ntmps15]) ?_;intro Q0 n0 r0;simp only [Tryz.ntmps15,envFrom,Nat.reduceAdd];have T:=Tys.mk (ai Ty.t3 (ai Ty.t9 Ty.t38));have F:=Fc.mk True.intro;refine yR [0,1] ⟨?_⟩;refine v_seq ?_;intros;refine yR [0,1,10] ⟨?_⟩;refine v_condS _ rfl ?_ ?_
 ·intro hc0;refine yR [4] ⟨?_⟩;refine zr ⟨?_⟩;exact ret_pure rfl (by rw [decide_eq_false (fun h=>by subst h;simp at hc0)]) (.inl rfl)
 ·intro hc0;have hab:a.length=b.length:=by omega
  refine zn [0,1] ⟨?_⟩;refine v_seq ?_;intros;refine yR [0,1,12,13] ⟨?_⟩;refine v_block ?_;intros;refine v_loop (fun i=>⟨[(0,.sl (a.map V.str)),(1,.sl (b.map V.str)),(12,.int .i64 a.length),(13,.int .i64 (Nat.cast i))],[],false,26,0⟩) (fun i=>i≤a.length∧((a=b)↔(a.drop i=b.drop i))) (fun i=>a.length - i) 0 ?_ ?_ ?_
  ·refine weak_of [0,1,12,13] ?_;simp only [keep_mk,keepE_nil,keepE_cons,look_cons,look_nil,Nat.reduceEqDiff,reduceIte];rfl
  ·exact ⟨qlk _,by simp⟩
  ·rintro i hok9 Q9 n9 e9 r9;obtain ⟨hi1,hR⟩:=hok9;refine yR [0,1,12,13,14] ⟨?_⟩;refine v_seq ?_;intros;refine v_condS _ rfl ?_ ?_
   ·intro hc1;have hlt:i < a.length:=by omega
    obtain ⟨x,hx⟩:∃x,a[i]? =some x:=⟨a[i],qla hlt⟩;obtain ⟨y,hy⟩:∃y,b[i]? =some y:=⟨b[i],qla (by omega)⟩;have hstep:=eq_drop hab hx hy;refine zn [0,1,12,13] ⟨?_⟩;refine v_seq ?_;intros;refine v_block ?_;intros;have F:=Fc.mk (ai (gdm hx) (gdm hy));refine yR [0,1,5,12,13] ⟨?_⟩;refine v_seq ?_;intro Q16 n16 e16 r16;refine v_draw (by kernel_rfl) ?_;intro K17 q17 k17;show aAny _ _ _ _ 9 (Array.replicate 9 false) _;refine zdMove q17 true 0 16 ?_;refine zdMove q17 true 1 17 ?_;refine zdIndexAddr q17 true 2 18 ?_;refine zdLoad q17 true 3 19 ?_;refine zdMove q17 true 4 20 ?_;refine zdMove q17 true 5 21 ?_;refine zdIndexAddr q17 true 6 22 ?_;refine zdLoad q17 true 7 23 ?_;refine zdBinOp q17 true 8 24 ?_;refine aAny_done (by kernel_rfl) ?_;refine k17 _ ?_;refine n16 _ _ (weak_keep [0,1,12,13,24] _) ?_;refine zk ⟨?_⟩;refine v_condS _ rfl ?_ ?_
    ·intro hc2;have hne:¬x=y:=by first | exact hc2 | (simpa using hc2)
     refine yR [4] ⟨?_⟩;refine zr ⟨?_⟩;exact ret_pure rfl (by rw [decide_eq_false (fun h=>hne (hstep.1 (hR.1 h)).1)]) (.inl rfl)
    ·intro hc2;have heq:x=y:=by first | exact hc2 | (simpa using hc2)
     refine zn [0,1,12,13] ⟨?_⟩;refine yV ⟨?_⟩;refine n9 _ (i+1) ?_ ?_ ?_
     ·refine weak_of [0,1,12,13] ?_;simp only [keep_mk,keepE_nil,keepE_cons,look_cons,look_nil,Nat.reduceEqDiff,reduceIte];rfl
     ·exact ⟨by omega,hR.trans (hstep.trans ⟨fun h=>h.2,fun h=>⟨heq,h⟩⟩)⟩
     ·show _ < _;omega
   ·intro hc1;refine zn [] ⟨?_⟩;refine yR [4] ⟨?_⟩;refine zr ⟨?_⟩;exact ret_pure rfl (by rw [decide_eq_true (hR.2 (by rw [qlt (by omega),qlt (by omega)]))]) (.inl rfl)
theorem pSameLists_con (l:List (List ByteArray)) (hl:l.length≤1048576) (hls:∀x∈l,x.length≤1048576):Con Tryz.prog 8 [.sl (l.map fun l=>V.sl (l.map V.str)),.sl (l.map fun l=>V.sl (l.map V.str))] [] (.bool true) []:=by
 refine v_con [.tmp 4] [] Tryz.func8 rfl rfl rfl (by simp [Tryz.ntmps8]) ?_;intro Q0 n0 r0;simp only [Tryz.ntmps8,envFrom,Nat.reduceAdd];have T:=Tys.mk (ai Ty.t3 (ai Ty.t4 (ai Ty.t9 (ai Ty.t31 Ty.t38))));have F:=Fc.mk True.intro;refine yR [0,1] ⟨?_⟩;refine v_seq ?_;intros;refine yR [0,1,10] ⟨?_⟩;refine v_cond _ rfl ?_ ?_
 ·intro hc0;exfalso;simp at hc0
 ·intro hc0;try simp only [zC,reduceCtorEq] at hc0
  refine zn [0,1] ⟨?_⟩;refine v_seq ?_;intros;refine yR [0,1,12,13] ⟨?_⟩;refine v_block ?_;intros;refine v_loop (fun i=>⟨[(0,.sl (l.map fun l=>V.sl (l.map V.str))),(1,.sl (l.map fun l=>V.sl (l.map V.str))),(12,.int .i64 l.length),(13,.int .i64 (Nat.cast i))],[],false,27,0⟩) (fun i=>i≤l.length) (fun i=>l.length - i) 0 ?_ ?_ ?_
  ·refine weak_of [0,1,12,13] ?_;simp only [keep_mk,keepE_nil,keepE_cons,look_cons,look_nil,Nat.reduceEqDiff,reduceIte];rfl
  ·exact qlk _
  ·rintro i hok8 Q8 n8 e8 r8;have hi1:i≤l.length:=hok8;refine yR [0,1,12,13,14] ⟨?_⟩;refine v_seq ?_;intros;refine v_condS _ rfl ?_ ?_
   ·intro hc1;have hlt:i < l.length:=by omega
    obtain ⟨x,hx⟩:∃x,l[i]? =some x:=⟨l[i],qla hlt⟩;have hlx:=hls _ (qlb hx);refine zn [0,1,12,13] ⟨?_⟩;refine v_seq ?_;intros;refine v_block ?_;intros;have F:=Fc.mk (gdm hx);refine yR [0,1,5,12,13] ⟨?_⟩;refine v_seq ?_;intro Q15 n15 e15 r15;refine v_draw (by kernel_rfl) ?_;intro K16 q16 k16;show aAny _ _ _ _ 10 (Array.replicate 10 false) _;refine zdMove q16 true 0 16 ?_;refine zdMove q16 true 1 17 ?_;refine zdIndexAddr q16 true 2 18 ?_;refine zdLoad q16 true 3 19 ?_;refine zdMove q16 true 4 20 ?_;refine zdMove q16 true 5 21 ?_;refine zdIndexAddr q16 true 6 22 ?_;refine zdLoad q16 true 7 23 ?_;refine zoc 8 (pSameTexts_con x hlx) ⟨?_⟩;refine zdUnOp q16 true 9 25 ?_;refine aAny_done (by kernel_rfl) ?_;refine k16 _ ?_;refine n15 _ _ (weak_keep [0,1,12,13,25] _) ?_;refine zk ⟨?_⟩;refine v_cond _ rfl ?_ ?_
    ·intro hc2;exfalso;simp at hc2
    ·intro hc2;try simp only [zC,reduceCtorEq] at hc2
     refine zn [0,1,12,13] ⟨?_⟩;refine yV ⟨?_⟩;refine n8 _ (i+1) ?_ ?_ ?_
     ·refine weak_of [0,1,12,13] ?_;simp only [keep_mk,keepE_nil,keepE_cons,look_cons,look_nil,Nat.reduceEqDiff,reduceIte];rfl
     ·exact hlt
     ·show _ < _;omega
   ·intro hc1;refine zn [] ⟨?_⟩;refine yR [4] ⟨?_⟩;refine zr ⟨?_⟩;exact ret_pure rfl rfl (.inl rfl)
def missR (n:Int) (ss:List TS) (fl:List TA) (node:Int) (need:List Int):List Int:=if (askD n ss fl node && need4 need)=true then (choiceL n ss fl node need).1 else []
set_option maxRecDepth 8000 in
theorem missing_con (n:Int) (ss:List TS) (fl:List TA) (node:Int) (need:List Int) (hs:ss.length≤1048576) (hl:fl.length≤1048576) (hls:∀t∈fl,t.1.size≤9223372036854775807) (hne:need.length≤1048576):Con Tryz.prog 9 [.agg [.int .i64 n,.sl (ss.map (fun t:TS=>V.agg [V.int .i64 t.1,V.int .i64 t.2.1,V.int .i64 t.2.2]))],.sl (fl.map (fun t:TA=>V.agg [V.str t.1,V.int .i64 t.2.1,V.int .i64 t.2.2.1,V.int .i64 t.2.2.2.1,V.int .i64 t.2.2.2.2])),.int .i64 node,.sl (need.map (V.int .i64))] [] (.tup [.ref 0,.bool (askD n ss fl node && need4 need)]) [.arr ((missR n ss fl node need).map (V.int .i64)) .flat]:=by
 refine v_con [.tmp 8,.tmp 9] [] Tryz.func9 rfl rfl rfl (by simp [Tryz.ntmps9]) ?_;intro Q0 n0 r0;simp only [Tryz.ntmps9,envFrom,Nat.reduceAdd];have T:=Tys.mk (ai Ty.t3 (ai Ty.t4 (ai Ty.t9 (ai Ty.t24 (ai Ty.t26 (ai Ty.t27 (ai Ty.t28 (ai Ty.t72 Ty.t98))))))));have F:=Fc.mk True.intro;refine yR [1,2,3,4] ⟨?_⟩;refine v_seq ?_;intros;refine yRcg [1,2,3,4,22] (dsAsked_con n ss fl node hs hl hls) (tbNeed_con need hne) ⟨?_⟩;refine v_condS _ rfl ?_ ?_
 ·intro hc0;have hh:(askD n ss fl node && need4 need)=false:=by cases hq:(askD n ss fl node && need4 need) with | false=>rfl | true=>(exfalso;simp [askD] at hq hc0;first | (simp_all;done) | (simp_all [askD];done) | (simp_all;omega))
  have hR0:missR n ss fl node need=[]:=by rw [missR,hh];rfl
  refine yR [8,9] ⟨?_⟩;refine zr ⟨?_⟩;rw [hh,hR0];exact ret_ref_tup rfl rfl rfl (.inl rfl)
 ·intro hc0;have hH:askD n ss fl node=true∧need4 need=true:=by first | exact hc0 | (simp [askD] at hc0⊢;first | exact hc0 | (simp_all;done))
  obtain ⟨hask,hnd⟩:=hH;have hK:(askD n ss fl node && need4 need)=true:=by rw [hask,hnd];rfl
  have hR1:missR n ss fl node need=(choiceL n ss fl node need).1:=by rw [missR,if_pos hK]
  have hn:=need4_facts hnd;obtain ⟨hd,hu⟩:=ask_facts hask;refine zn [1,2,3,4] ⟨?_⟩;refine yRc [11] (dsPick_con n ss fl node need hd hu hn) ⟨?_⟩;refine yR [8,9] ⟨?_⟩;refine zr ⟨?_⟩;rw [hK,hR1];exact rta
end Go.Proofs.YtmhaafinhpopmaaGreat
