/- What functions compute. No condition. -/
import Derived.Test.YtmhaafinhpopmaaGreatX8
import Derived.Test.YtmhaafinhpopmaaGreatX4
set_option linter.unusedSimpArgs false
set_option linter.unusedVariables false
set_option linter.defProp false
namespace Go.Proofs.YtmhaafinhpopmaaGreat
open Go Go.Vm
set_option maxHeartbeats 8000000
def keyOf (fl:List TA) (ts:List Int) (i:Int):Int:=match fl[i.toNat]? with | some a=>Tm.at_ ts a.2.2.1.toNat | none=>0
def byKey (fl:List TA) (ts:List Int) (i j:Int):Bool:=decide (keyOf fl ts i < keyOf fl ts j)
def readyP (fl:List TA) (ts:List Int) (a:TA):Bool:=availB a && decide (0≤Tm.at_ ts a.2.2.1.toNat)
def readyTo (fl:List TA) (ts:List Int):Nat→List Int
  | 0=>[]
  | m+1=>readyTo fl ts m++(match fl[m]? with | some a=>if readyP fl ts a=true then [(m:Int)] else [] | none=>[])
def readyL (fl:List TA) (ts:List Int):List Int:=isort (byKey fl ts) (readyTo fl ts fl.length)
theorem ready_step {fl:List TA} {ts:List Int} {m:Nat} {a:TA} (h:fl[m]? =some a):readyTo fl ts (m+1)=if readyP fl ts a=true then readyTo fl ts m++[(m:Int)] else readyTo fl ts m:=by
  rw [readyTo,h];simp only;split<;>simp
theorem ready_len (fl:List TA) (ts:List Int):∀m,(readyTo fl ts m).length≤m
  | 0=>qlu _
  | m+1=>by
    have:=ready_len fl ts m;rw [readyTo,qlm];split
    · split<;>simp<;>omega
    · simp;omega
theorem ready_mem (fl:List TA) (ts:List Int):∀m,∀i∈readyTo fl ts m,∃(k:Nat) (a:TA),i=(k:Int)∧k < m∧fl[k]? =some a∧readyP fl ts a=true
  | 0,i,h=>by cases h
  | m + 1,i,h=>by
    rw [readyTo,qll] at h;rcases h with h | h
    · obtain ⟨k,a,h1,h2,h3⟩:=ready_mem fl ts m i h
      exact ⟨k,a,h1,by omega,h3⟩
    · split at h
      · rename_i a ha
        split at h
        · rename_i hp
          rw [qli] at h;exact ⟨m,a,h,by omega,ha,hp⟩
        · cases h
      · cases h
theorem readyL_mem {fl:List TA} {ts:List Int} {i:Int} (h:i∈readyL fl ts):∃(k:Nat) (a:TA),i=(k:Int)∧k < fl.length∧fl[k]? =some a∧readyP fl ts a=true:=ready_mem fl ts _ i (isort_mem.1 h)
theorem readyL_len (fl:List TA) (ts:List Int):(readyL fl ts).length≤fl.length:=by rw [readyL,isort_len];exact ready_len ..
theorem ready_incr (fl:List TA) (ts:List Int):∀m,(readyTo fl ts m).Pairwise (· < ·)
  | 0=>List.Pairwise.nil
  | m + 1=>by
    rw [readyTo,List.pairwise_append];refine ⟨ready_incr fl ts m,?_,?_⟩
    · split
      · split
        · exact List.pairwise_singleton ..
        · exact List.Pairwise.nil
      · exact List.Pairwise.nil
    · intro a ha b hb
      obtain ⟨k,_,h1,h2,_⟩:=ready_mem fl ts m a ha;split at hb
      · split at hb
        · rw [qli] at hb;omega
        · cases hb
      · cases hb
theorem readyL_nodup (fl:List TA) (ts:List Int):(readyL fl ts).Nodup:=by
  refine (isort_perm (byKey fl ts) _).symm.nodup ?_;exact (ready_incr fl ts _).imp fun h=>by omega
def pickF (fl:List TA) (s:List Int×List Int) (i:Int):List Int×List Int:=
  match fl[i.toNat]? with
  | some a=>if 0 < s.1.getD a.2.1.toNat 0 then (s.1.set a.2.1.toNat (s.1.getD a.2.1.toNat 0 - 1),s.2++[i]) else s
  | none=>s
def pickL (fl:List TA) (order need:List Int):List Int×List Int:=order.foldl (pickF fl) (need,[])
theorem pick_step {fl:List TA} {order need:List Int} {k:Nat} {i:Int} (h:order[k]? =some i):pickL fl (order.take (k+1)) need=pickF fl (pickL fl (order.take k) need) i:=by
  rw [pickL,qme,h,List.foldl_append];rfl
theorem pick_facts {fl:List TA} {need:List Int} (hn:need.length=4∧∀x∈need,0≤x∧x≤6):∀(order:List Int),(pickL fl order need).1.length=4∧(∀x∈(pickL fl order need).1,0≤x∧x≤6)∧(pickL fl order need).2.length≤order.length∧(pickL fl order need).2.Sublist order:=by
  have key : ∀ (order:List Int) (s:List Int×List Int) (o0:List Int),(s.1.length=4∧(∀x∈s.1,0≤x∧x≤6)∧s.2.Sublist o0)→((order.foldl (pickF fl) s).1.length=4∧(∀x∈(order.foldl (pickF fl) s).1,0≤x∧x≤6)∧(order.foldl (pickF fl) s).2.Sublist (o0++order)):=by
    intro order
    induction order with
    | nil=>intro s o0 h;rw [ql6];exact h
    | cons i l ih=>
      intro s o0 h;rw [List.foldl_cons];have h2:=ih (pickF fl s i) (o0++[i]) ?_
      · rw [qlw] at h2;exact h2
      · unfold pickF
        split
        · rename_i a ha
          split
          · rename_i hp
            refine ⟨by rw [qln];exact h.1,fun x hx=> ?_,h.2.2.append (List.Sublist.refl _)⟩;rcases List.mem_or_eq_of_mem_set hx with q | q
            · exact h.2.1 x q
            · have hk:s.1.getD a.2.1.toNat 0≤6:=by
                rw [qld] at hp⊢;cases hz:s.1[a.2.1.toNat]? with
                | none=>rw [hz] at hp;simp at hp
                | some z=>simpa using (h.2.1 z (qlb hz)).2
              omega
          · exact ⟨h.1,h.2.1,h.2.2.trans (List.sublist_append_left ..)⟩
        · exact ⟨h.1,h.2.1,h.2.2.trans (List.sublist_append_left ..)⟩
  intro order;have h:=key order (need,[]) [] ⟨hn.1,hn.2,List.Sublist.refl _⟩;rw [List.nil_append] at h;exact ⟨h.1,h.2.1,h.2.2.length_le,h.2.2⟩
theorem bytesLess_trans:∀{a b c:List UInt8},Op.bytesLess a b=true→Op.bytesLess b c=true→Op.bytesLess a c=true
  | _,[],_,h,_=>by simp [Op.bytesLess] at h
  | _,_::_,[],_,h=>by simp [Op.bytesLess] at h
  | [],_::_,_::_,_,_=>rfl
  | x ::a,y::b,z::c,h,k=>by
    simp only [Op.bytesLess,Bool.or_eq_true,decide_eq_true_eq,Bool.and_eq_true,beq_iff_eq] at h k⊢;rcases h with h | ⟨rfl,h⟩
    · rcases k with k | ⟨rfl,_⟩
      · exact .inl (UInt8.lt_trans h k)
      · exact .inl h
    · rcases k with k | ⟨rfl,k⟩
      · exact .inl k
      · exact .inr ⟨rfl,bytesLess_trans h k⟩
theorem strLt_trans {a b c:ByteArray} (h:strLt a b=true) (k:strLt b c=true):strLt a c=true:=bytesLess_trans h k
theorem strLt_ne {a b:ByteArray} (h:strLt a b=true):a≠b:=by
  intro e;subst e;rw [strLt_irrefl] at h;cases h
theorem chain_pairF {α:Type} {ok:α→Bool} {bf:α→α→Bool} (tr:∀a b c,bf a b=true→bf b c=true→bf a c=true):∀{l:List α} {p:Option α},chainFrom ok bf p l=true→(∀q,p=some q→∀x∈l,bf q x=true)∧l.Pairwise fun x y=>bf x y=true
  | [],_,_=>⟨fun _ _ x hx=>(by cases hx),List.Pairwise.nil⟩
  | y::l,none,h=>by
    simp only [chainFrom,Bool.and_eq_true] at h;obtain ⟨h1,h2⟩:=chain_pairF tr h.2;exact ⟨fun q hq=>(by cases hq),List.pairwise_cons.2 ⟨h1 y rfl,h2⟩⟩
  | y::l,some p,h=>by
    simp only [chainFrom,Bool.and_eq_true] at h;obtain ⟨h1,h2⟩:=chain_pairF tr h.2;refine ⟨fun q hq x hx=> ?_,List.pairwise_cons.2 ⟨h1 y rfl,h2⟩⟩;cases hq;rcases ql0.1 hx with rfl | q
    · exact h.1.2
    · exact tr _ _ _ h.1.2 (h1 y rfl x q)
theorem chain_pair {α:Type} {ok:α→Bool} {bf:α→α→Bool} (tr:∀a b c,bf a b=true→bf b c=true→bf a c=true) {l:List α} (h:chainAt ok bf l 0=true):l.Pairwise fun x y=>bf x y=true:=(chain_pairF tr h).2
theorem chain_ofF {α:Type} {ok:α→Bool} {bf:α→α→Bool}:∀{l:List α} {p:Option α},(∀x∈l,ok x=true)→(∀q,p=some q→∀x∈l,bf q x=true)→(l.Pairwise fun x y=>bf x y=true)→chainFrom ok bf p l=true
  | [],_,_,_,_=>rfl
  | y::l,none,h1,_,h3=>by
    obtain ⟨a,b⟩:=List.pairwise_cons.1 h3;rw [chainFrom,h1 y (qle ..),chain_ofF (fun x hx=>h1 x (qlg _ hx)) (fun q hq x hx=>by cases hq;exact a x hx) b];rfl
  | y::l,some p,h1,h2,h3=>by
    obtain ⟨a,b⟩:=List.pairwise_cons.1 h3;rw [chainFrom,h1 y (qle ..),h2 p rfl y (qle ..),chain_ofF (fun x hx=>h1 x (qlg _ hx)) (fun q hq x hx=>by cases hq;exact a x hx) b];rfl
theorem chain_splitF {α:Type} {ok:α→Bool} {bf:α→α→Bool}:∀{l:List α} {p:Option α},chainFrom ok bf p l=(chainFrom (fun _=>true) bf p l && l.all ok)
  | [],_=>rfl
  | y::l,none=>by
    rw [chainFrom,chainFrom,chain_splitF,List.all_cons];cases ok y<;>cases chainFrom (fun _=>true) bf (some y) l<;>simp
  | y::l,some p=>by
    rw [chainFrom,chainFrom,chain_splitF,List.all_cons];cases ok y<;>cases bf p y<;>cases chainFrom (fun _=>true) bf (some y) l<;>simp
theorem chain_split {α:Type} {ok:α→Bool} {bf:α→α→Bool} {l:List α}:chainAt ok bf l 0=(chainAt (fun _=>true) bf l 0 && l.all ok):=chain_splitF
theorem first_at {α:Type} {p:α→Bool}:∀{l:List α} {k i:Nat} {a:α},l[k]? =some a→p a=true→(∀j b,j < k→l[j]? =some b→p b=false)→firstP p i l=((i+k:Nat):Int)
  | [],_,_,_,h,_,_=>by simp at h
  | x::l,0,i,a,h,hp,_=>by
    obtain rfl:x=a:=by simpa using h
    rw [firstP,if_pos hp];rfl
  | x::l,k+1,i,a,h,hp,hn=>by
    have h0:=hn 0 x (Nat.succ_pos k) rfl;rw [firstP,if_neg (by rw [h0];decide),first_at (k:=k) (by simpa using h) hp (fun j b hj hb=>hn (j+1) b (by omega) (by simpa using hb))]
    congr 1;omega
theorem fleet_find {fl:List TA} (h:fl.Pairwise fun x y=>apBf x y=true) {k:Nat} {a:TA} (ha:fl[k]? =some a):firstP (fun x:TA=>decide (x.1=a.1)) 0 fl=(k:Int):=by
  rw [first_at ha (by simp) ?_,Nat.zero_add];intro j b hj hb;rw [List.pairwise_iff_getElem] at h;obtain ⟨hk,ha'⟩:=qlc.1 ha;obtain ⟨hj',hb'⟩:=qlc.1 hb;have:=h j k hj' hk hj;rw [ha',hb'] at this;simpa using strLt_ne this
def findA (fl:List TA) (s:ByteArray):Int:=firstP (fun x:TA=>decide (x.1=s)) 0 fl
def attOne (fl:List TA) (ts:List Int) (s:ByteArray):Int:=if findA fl s < 0 then -1 else keyOf fl ts (findA fl s)
def attB (fl:List TA) (ts:List Int) (names:List ByteArray):Bool:=chainAt (fun s=>decide (0≤attOne fl ts s)) strLt names 0 && !decide ((names.length:Int)=0)
def attV (fl:List TA) (ts:List Int) (names:List ByteArray):Int:=names.foldl (fun m s=>max m (attOne fl ts s)) 0
def mostOf (fl:List TA) (ts:List Int) (order:List Int):Int:=order.foldl (fun m i=>max m (keyOf fl ts i)) 0
def idxTo (order:List Int) (m:Nat):List Int:=((List.range m).map fun k:Nat=>(k:Int)).filter fun i=>decide (i∈order)
def sentTo (fl:List TA) (order:List Int):Nat→List ByteArray
  | 0=>[]
  | m+1=>sentTo fl order m++(match fl[m]? with | some a=>if (m:Int)∈order then [a.1] else [] | none=>[])
theorem sent_step {fl:List TA} {order:List Int} {m:Nat} {a:TA} (h:fl[m]? =some a):sentTo fl order (m+1)=if (m:Int)∈order then sentTo fl order m++[a.1] else sentTo fl order m:=by
  rw [sentTo,h];simp only;split<;>simp
def nameAt (fl:List TA) (i:Int):ByteArray:=match fl[i.toNat]? with | some a=>a.1 | none=>⟨#[]⟩
theorem idx_succ (order:List Int) (m:Nat):idxTo order (m+1)=idxTo order m++(if (m:Int)∈order then [(m:Int)] else []):=by
  rw [idxTo,List.range_succ,ql1,List.filter_append,idxTo]
  congr 1
  by_cases h:(m:Int)∈order<;>simp [h]
theorem sent_idx (fl:List TA) (order:List Int):∀m,m≤fl.length→sentTo fl order m=(idxTo order m).map (nameAt fl)
  | 0,_=>rfl
  | m+1,h=>by
    have ha:fl[m]? =some fl[m]:=qla (by omega);rw [sent_step ha,idx_succ,ql1,sent_idx fl order m (by omega)];split
    · simp [nameAt,ha]
    · simp
theorem idx_perm {order:List Int} {m:Nat} (hn:order.Nodup) (hv:∀i∈order,∃k:Nat,i=(k:Int)∧k < m):(idxTo order m).Perm order:=by
  refine (List.perm_ext_iff_of_nodup ?_ hn).2 fun i=> ?_
  · refine List.Pairwise.filter _ ?_
    exact List.Pairwise.map _ (fun a b h e=>h (by omega)) List.nodup_range
  · rw [idxTo,List.mem_filter,decide_eq_true_eq]
    constructor
    · exact fun h=>h.2
    · intro h
      obtain ⟨k,hk,hm⟩:=hv i h;exact ⟨qma.2 ⟨k,qmi.2 hm,hk.symm⟩,h⟩
theorem att_name {fl:List TA} {ts:List Int} (hf:fl.Pairwise fun x y=>apBf x y=true) {k:Nat} (hk:k < fl.length):attOne fl ts (nameAt fl (k:Int))=keyOf fl ts (k:Int):=by
  have ha:fl[k]? =some fl[k]:=qla hk;have hn:nameAt fl (k:Int)=fl[k].1:=by rw [nameAt,ql2,ha]
  rw [attOne,findA,hn,fleet_find hf ha,if_neg (by omega)]
theorem sent_facts {fl:List TA} {ts:List Int} {order:List Int} (hf:fl.Pairwise fun x y=>apBf x y=true) (hn:order.Nodup) (hv:∀i∈order,∃k:Nat,i=(k:Int)∧k < fl.length∧0≤keyOf fl ts i) :
    (sentTo fl order fl.length).length=order.length∧attV fl ts (sentTo fl order fl.length)=mostOf fl ts order∧attB fl ts (sentTo fl order fl.length)= !decide ((order.length:Int)=0):=by
  have hp:=idx_perm (m:=fl.length) hn fun i hi=>by obtain ⟨k,h1,h2,_⟩:=hv i hi;exact ⟨k,h1,h2⟩
  have hs:=sent_idx fl order fl.length (qlu _);have hval:∀i∈idxTo order fl.length,attOne fl ts (nameAt fl i)=keyOf fl ts i:=by
    intro i hi;obtain ⟨k,rfl,h2,_⟩:=hv i (hp.mem_iff.1 hi);exact att_name hf h2
  refine ⟨by rw [hs,ql7,hp.length_eq],?_,?_⟩
  · have e:∀(l:List Int) (a:Int),(∀i∈l,attOne fl ts (nameAt fl i)=keyOf fl ts i)→(l.map (nameAt fl)).foldl (fun m s=>max m (attOne fl ts s)) a=l.foldl (fun m i=>max m (keyOf fl ts i)) a:=by
      intro l
      induction l with
      | nil=>intro a _;rfl
      | cons x l ih=>intro a h;rw [List.map_cons,List.foldl_cons,List.foldl_cons,h x (qle ..),ih _ fun i hi=>h i (qlg _ hi)]
    rw [attV,hs,e _ _ hval,mostOf];exact hp.foldl_eq' (fun x _ y _ z=>by omega) 0
  · have hlen:(sentTo fl order fl.length).length=order.length:=by rw [hs,ql7,hp.length_eq]
    have hch:chainAt (fun s=>decide (0≤attOne fl ts s)) strLt (sentTo fl order fl.length) 0=true:=by
      refine chain_ofF (fun s hs'=> ?_) (fun q hq=>(by cases hq)) ?_
      · rw [hs] at hs'
        obtain ⟨i,hi,rfl⟩:=qma.1 hs';obtain ⟨k,_,_,h3⟩:=hv i (hp.mem_iff.1 hi);rw [hval i hi];simpa using h3
      · show (sentTo fl order fl.length).Pairwise _
        rw [hs,List.pairwise_map];have hinc:(idxTo order fl.length).Pairwise (· < ·):=by
          refine List.Pairwise.filter _ ?_;exact List.Pairwise.map _ (fun a b h=>by omega) List.pairwise_lt_range
        refine hinc.imp_of_mem ?_;intro a b ha hb hab;obtain ⟨k,rfl,h2,_⟩:=hv a (hp.mem_iff.1 ha);obtain ⟨j,rfl,h4,_⟩:=hv b (hp.mem_iff.1 hb);rw [List.pairwise_iff_getElem] at hf;have:=hf k j h2 h4 (by omega);rw [apBf] at this;simpa [nameAt,List.getElem?_eq_getElem h2,List.getElem?_eq_getElem h4] using this
    rw [attB,hch,hlen];rfl
def dsB (n:Int) (ss:List TS) (fl:List TA):Bool:=townB n ss && fleetB fl && fl.all fun a=>hasB n a.2.2.1
def askD (n:Int) (ss:List TS) (fl:List TA) (node:Int):Bool:=dsB n ss fl && hasB n node
theorem town_facts {n:Int} {ss:List TS} (h:townB n ss=true):(1≤n∧n≤14)∧ss.length≤40∧∀s∈ss,strOK n s=true:=by
  simp only [townB,townH,Bool.and_eq_true,decide_eq_true_eq,Bool.not_eq_true',decide_eq_false_iff_not] at h;exact ⟨h.1.1,by omega,chain_ok h.2⟩
theorem has_facts {n x:Int} (h1:1≤n∧n≤14):hasB n x=(decide (0≤x) && decide (x < n)):=by
  rw [hasB,wrap64 (by omega) (by omega)]
  congr 1
  exact decide_eq_decide.2 (by omega)
theorem fleet_ok {fl:List TA} (h:fleetB fl=true):∀a∈fl,apOK a=true:=by
  simp only [fleetB,Bool.and_eq_true] at h;exact chain_ok h.1
structure DsFacts (n:Int) (ss:List TS) (fl:List TA):Prop where
  hn:1≤n∧n≤14
  hsl:ss.length≤40
  hss:∀s∈ss,strOK n s=true
  hfl:fl.length≤12
  hap:∀a∈fl,(0≤a.2.1∧a.2.1≤3)∧0≤a.2.2.1∧a.2.2.1 < n
  hinc:fl.Pairwise fun x y=>apBf x y=true
theorem ds_facts {n:Int} {ss:List TS} {fl:List TA} (h:dsB n ss fl=true):DsFacts n ss fl:=by
  simp only [dsB,Bool.and_eq_true,List.all_eq_true] at h;obtain ⟨⟨h1,h2⟩,h3⟩:=h;obtain ⟨t1,t2,t3⟩:=town_facts h1;refine ⟨t1,t2,t3,fleet_len h2,fun a ha=> ?_,?_⟩
  · have k1:=ap_kind (fleet_ok h2 a ha)
    have k2:=h3 a ha;rw [has_facts t1] at k2;simp only [Bool.and_eq_true,decide_eq_true_eq] at k2;exact ⟨⟨k1.1,k1.2.1⟩,k2⟩
  · simp only [fleetB,Bool.and_eq_true] at h2
    exact chain_pair (bf:=apBf) (fun a b c h k=>strLt_trans (show strLt a.1 b.1=true from h) (show strLt b.1 c.1=true from k)) h2.1
theorem ask_facts {n:Int} {ss:List TS} {fl:List TA} {node:Int} (h:askD n ss fl node=true):DsFacts n ss fl∧0≤node∧node < n:=by
  rw [askD,qlo] at h;have hd:=ds_facts h.1;have h2:=h.2;rw [has_facts hd.hn] at h2;simp only [Bool.and_eq_true,decide_eq_true_eq] at h2;exact ⟨hd,h2⟩
theorem all_step {α:Type} {p:α→Bool} {l:List α} {i:Nat} {x:α} (h:l[i]? =some x):(l.drop i).all p=(p x && (l.drop (i+1)).all p):=by
  rw [getElem_drop_cons h,List.all_cons]
theorem all_end {α:Type} {p:α→Bool} {l:List α} {i:Nat} (h:l.length≤i):(l.drop i).all p=true:=by
  rw [qlt h];rfl
theorem ask_ds {n:Int} {ss:List TS} {fl:List TA} {x:Int}:(dsB n ss fl && (townB n ss && hasB n x))=askD n ss fl x:=by
  rw [askD]
  by_cases h:townB n ss=true
  · rw [h];rfl
  · have h1:townB n ss=false:=by simpa using h
    have h2:dsB n ss fl=false:=by rw [dsB,h1];rfl
    rw [h2];rfl
theorem findAppliance1_con (x0:ByteArray) (x1:Int) (x2:Int) (x3:Int) (x4:Int) (s:ByteArray):Con Tryz.prog 75 [.agg [V.str x0,V.int .i64 x1,V.int .i64 x2,V.int .i64 x3,V.int .i64 x4],.pv [.str s] 0 0] [] (.bool (decide (x0=s))) []:=by
 refine v_con [.tmp 3] [] Tryz.func75 rfl rfl rfl (by simp [Tryz.ntmps75]) ?_;intro Q0 n0 r0;simp only [Tryz.ntmps75,envFrom,Nat.reduceAdd];have T:=Tys.mk (ai Ty.t3 (ai Ty.t9 Ty.t72));have F:=Fc.mk True.intro;refine yR [1,2] ⟨?_⟩;refine yR [3] ⟨?_⟩;refine zr ⟨?_⟩;exact ret_pure rfl (by first | rfl | simp) (.inl rfl)
theorem findAppliance_con (fl:List TA) (s:ByteArray) (hl:fl.length≤1048576):Con Tryz.prog 38 [.sl (fl.map (fun t:TA=>V.agg [V.str t.1,V.int .i64 t.2.1,V.int .i64 t.2.2.1,V.int .i64 t.2.2.2.1,V.int .i64 t.2.2.2.2])),.str s] [] (.int .i64 (findA fl s)) []:=by
 refine v_con [.tmp 4] [] Tryz.func38 rfl rfl rfl (by simp [Tryz.ntmps38]) ?_;intro Q0 n0 r0;simp only [Tryz.ntmps38,envFrom,Nat.reduceAdd];have T:=Tys.mk (ai Ty.t3 (ai Ty.t9 (ai Ty.t27 (ai Ty.t72 Ty.t88))));have F:=Fc.mk True.intro;refine yR [0,3] ⟨?_⟩;refine yRc [4] (indexFuncAppliance_con fl _ _ (fun x=>decide (x.1=s)) hl (.pv _ .nil) (fun x0 x1 x2 x3 x4 _=>findAppliance1_con x0 x1 x2 x3 x4 s)) ⟨?_⟩;refine zr ⟨?_⟩;exact ret_pure rfl rfl (.inl rfl)
theorem apFind_con (fl:List TA) (s:ByteArray) (hl:fl.length≤1048576):Con Tryz.prog 41 [.sl (fl.map (fun t:TA=>V.agg [V.str t.1,V.int .i64 t.2.1,V.int .i64 t.2.2.1,V.int .i64 t.2.2.2.1,V.int .i64 t.2.2.2.2])),.str s] [] (.int .i64 (findA fl s)) []:=by
 refine v_con [.tmp 4] [] Tryz.func41 rfl rfl rfl (by simp [Tryz.ntmps41]) ?_;intro Q0 n0 r0;simp only [Tryz.ntmps41,envFrom,Nat.reduceAdd];have T:=Tys.mk (ai Ty.t3 (ai Ty.t9 (ai Ty.t27 Ty.t72)));have F:=Fc.mk True.intro;refine yR [0,1] ⟨?_⟩;refine v_seq ?_;intros;refine yR [1,7,8,9] ⟨?_⟩;refine v_block ?_;intro Q4 n4 x4 e4 r4;refine v_loop (fun i=>⟨[(1,.str s),(7,.sl (fl.map (fun t:TA=>V.agg [V.str t.1,V.int .i64 t.2.1,V.int .i64 t.2.2.1,V.int .i64 t.2.2.2.1,V.int .i64 t.2.2.2.2]))),(8,.int .i64 fl.length),(9,.int .i64 (Nat.cast i))],[],false,20,0⟩) (fun i=>i≤fl.length∧firstP (fun x:TA=>decide (x.1=s)) i (fl.drop i)=firstP (fun x:TA=>decide (x.1=s)) 0 fl) (fun i=>fl.length - i) 0 ?_ ?_ ?_
 ·refine weak_of [1,7,8,9] ?_;simp only [keep_mk,keepE_nil,keepE_cons,look_cons,look_nil,Nat.reduceEqDiff,reduceIte];rfl
 ·exact ⟨qlk _,rfl⟩
 ·rintro i hok5 Q5 n5 e5 r5;obtain ⟨hi1,hR⟩:=hok5;refine yR [1,7,8,9,10] ⟨?_⟩;refine v_seq ?_;intros;refine v_condS _ rfl ?_ ?_
  ·intro hc0;have hlt:i < fl.length:=by omega
   obtain ⟨⟨x0,x1,x2,x3,x4⟩,hx⟩:∃x:TA,fl[i]? =some x:=⟨fl[i]'(by omega),qla (by omega)⟩;have hst:=first_step (p:=fun x:TA=>decide (x.1=s)) hx;refine zn [1,7,8,9] ⟨?_⟩;refine v_seq ?_;intros;refine v_block ?_;intros;have F:=Fc.mk (gdm hx);refine yR [1,5,6,7,8,9] ⟨?_⟩;refine yR [1,5,7,8,9,17] ⟨?_⟩;refine v_condS _ rfl ?_ ?_
   ·intro hc1;refine yR [4] ⟨?_⟩;refine zr ⟨?_⟩;exact ret_pure rfl (by rw [findA,←hR,hst,if_pos (by simpa using hc1)]) (.inl rfl)
   ·intro hc1;refine zn [1,7,8,9] ⟨?_⟩;refine yV ⟨?_⟩;refine n5 _ (i+1) ?_ ?_ ?_
    ·refine weak_bothS [1,7,8,9] [] ⟨?_⟩;rfl
    ·exact ⟨by omega,by rw [←hR,hst,if_neg (by simpa using hc1)]⟩
    ·show _ < _;omega
  ·intro hc0;refine zn [] ⟨?_⟩;refine yR [4] ⟨?_⟩;refine zr ⟨?_⟩;exact ret_pure rfl (by rw [findA,←hR,first_end (by omega)]) (.inl rfl)
theorem dispatchFits1_con (x0:ByteArray) (x1:Int) (x2:Int) (x3:Int) (x4:Int) (n:Int) (ss:List TS):Con Tryz.prog 60 [.agg [V.str x0,V.int .i64 x1,V.int .i64 x2,V.int .i64 x3,V.int .i64 x4],.pv [.pv [.agg [.int .i64 n,.sl (ss.map (fun t:TS=>V.agg [V.int .i64 t.1,V.int .i64 t.2.1,V.int .i64 t.2.2]))]] 0 0] 0 0] [] (.bool (!hasB n x2)) []:=by
 refine v_con [.tmp 3] [] Tryz.func60 rfl rfl rfl (by simp [Tryz.ntmps60]) ?_;intro Q0 n0 r0;simp only [Tryz.ntmps60,envFrom,Nat.reduceAdd];have T:=Tys.mk (ai Ty.t3 (ai Ty.t4 (ai Ty.t9 (ai Ty.t24 (ai Ty.t26 (ai Ty.t59 (ai Ty.t72 Ty.t98)))))));have F:=Fc.mk True.intro;refine yR [1,2] ⟨?_⟩;refine yRc [3] (tHas_con n ss x2) ⟨?_⟩;refine zr ⟨?_⟩;exact ret_pure rfl rfl (.inl rfl)
theorem dispatchFits_con (n:Int) (ss:List TS) (fl:List TA) (hs:ss.length≤1048576) (hl:fl.length≤1048576) (hls:∀t∈fl,t.1.size≤9223372036854775807):Con Tryz.prog 26 [.pv [.agg [.int .i64 n,.sl (ss.map (fun t:TS=>V.agg [V.int .i64 t.1,V.int .i64 t.2.1,V.int .i64 t.2.2]))]] 0 0,.sl (fl.map (fun t:TA=>V.agg [V.str t.1,V.int .i64 t.2.1,V.int .i64 t.2.2.1,V.int .i64 t.2.2.2.1,V.int .i64 t.2.2.2.2]))] [] (.bool (dsB n ss fl)) []:=by
 refine v_con [.tmp 4] [] Tryz.func26 rfl rfl rfl (by simp [Tryz.ntmps26]) ?_;intro Q0 n0 r0;simp only [Tryz.ntmps26,envFrom,Nat.reduceAdd];have T:=Tys.mk (ai Ty.t3 (ai Ty.t4 (ai Ty.t9 (ai Ty.t24 (ai Ty.t26 (ai Ty.t27 (ai Ty.t59 (ai Ty.t72 (ai Ty.t88 Ty.t98)))))))));have F:=Fc.mk True.intro;rcases Bool.eq_false_or_eq_true (townB n ss) with hT | hT<;>rcases Bool.eq_false_or_eq_true (fleetB fl) with hF | hF
 ·skip;skip;have F:=Fc.mk (ai hT hF);refine yR [1,2] ⟨?_⟩;refine yRcgg [4] (isTown_con n ss hs) (isFleet_con fl hl hls) (containsFuncAppliance_con fl _ _ (fun x=> !hasB n x.2.2.1) hl (.pv _ .nil) (fun x0 x1 x2 x3 x4 _=>dispatchFits1_con x0 x1 x2 x3 x4 n ss)) ⟨?_⟩;refine zr ⟨?_⟩;exact ret_pure rfl (by simp [dsB,hT,hF,List.all_eq_not_any_not]) (.inl rfl)
 ·skip;skip;have F:=Fc.mk (ai hT hF);refine yR [1,2] ⟨?_⟩;refine yRcgg [4] (isTown_con n ss hs) (isFleet_con fl hl hls) (containsFuncAppliance_con fl _ _ (fun x=> !hasB n x.2.2.1) hl (.pv _ .nil) (fun x0 x1 x2 x3 x4 _=>dispatchFits1_con x0 x1 x2 x3 x4 n ss)) ⟨?_⟩;refine zr ⟨?_⟩;exact ret_pure rfl (by simp [dsB,hT,hF,List.all_eq_not_any_not]) (.inl rfl)
 ·skip;skip;have F:=Fc.mk (ai hT hF);refine yR [1,2] ⟨?_⟩;refine yRcgg [4] (isTown_con n ss hs) (isFleet_con fl hl hls) (containsFuncAppliance_con fl _ _ (fun x=> !hasB n x.2.2.1) hl (.pv _ .nil) (fun x0 x1 x2 x3 x4 _=>dispatchFits1_con x0 x1 x2 x3 x4 n ss)) ⟨?_⟩;refine zr ⟨?_⟩;exact ret_pure rfl (by simp [dsB,hT,hF,List.all_eq_not_any_not]) (.inl rfl)
 ·skip;skip;have F:=Fc.mk (ai hT hF);refine yR [1,2] ⟨?_⟩;refine yRcgg [4] (isTown_con n ss hs) (isFleet_con fl hl hls) (containsFuncAppliance_con fl _ _ (fun x=> !hasB n x.2.2.1) hl (.pv _ .nil) (fun x0 x1 x2 x3 x4 _=>dispatchFits1_con x0 x1 x2 x3 x4 n ss)) ⟨?_⟩;refine zr ⟨?_⟩;exact ret_pure rfl (by simp [dsB,hT,hF,List.all_eq_not_any_not]) (.inl rfl)
theorem dsGood_con (n:Int) (ss:List TS) (fl:List TA) (hs:ss.length≤1048576) (hl:fl.length≤1048576) (hls:∀t∈fl,t.1.size≤9223372036854775807):Con Tryz.prog 67 [.agg [.int .i64 n,.sl (ss.map (fun t:TS=>V.agg [V.int .i64 t.1,V.int .i64 t.2.1,V.int .i64 t.2.2]))],.sl (fl.map (fun t:TA=>V.agg [V.str t.1,V.int .i64 t.2.1,V.int .i64 t.2.2.1,V.int .i64 t.2.2.2.1,V.int .i64 t.2.2.2.2]))] [] (.bool (dsB n ss fl)) []:=by
 refine v_con [.tmp 4] [] Tryz.func67 rfl rfl rfl (by simp [Tryz.ntmps67]) ?_;intro Q0 n0 r0;simp only [Tryz.ntmps67,envFrom,Nat.reduceAdd];have T:=Tys.mk (ai Ty.t3 (ai Ty.t4 (ai Ty.t9 (ai Ty.t24 (ai Ty.t26 (ai Ty.t27 (ai Ty.t72 Ty.t98)))))));have F:=Fc.mk True.intro;refine yR [1,2] ⟨?_⟩;refine v_seq ?_;intros;refine yRcg [1,2,14] (toGood_con n ss hs) (apFleet_con fl hl hls) ⟨?_⟩;refine v_condS _ rfl ?_ ?_
 ·intro hc0;have hh:dsB n ss fl=false:=by rw [dsB];(try simp at hc0);first | (rcases hc0 with h | h<;>simp [h];done) | (simp_all;done)
  refine yR [4] ⟨?_⟩;refine zr ⟨?_⟩;rw [hh];exact ret_pure rfl rfl (.inl rfl)
 ·intro hc0;have hTF:townB n ss=true∧fleetB fl=true:=by first | exact hc0 | (simp at hc0;exact hc0)
  have htf:=town_facts hTF.1;refine zn [1,2] ⟨?_⟩;refine v_seq ?_;intros;refine yR [2,15,16,17] ⟨?_⟩;refine v_block ?_;intros;refine v_loop (fun i=>⟨[(2,.ptr 0 0 0),(15,.sl (fl.map (fun t:TA=>V.agg [V.str t.1,V.int .i64 t.2.1,V.int .i64 t.2.2.1,V.int .i64 t.2.2.2.1,V.int .i64 t.2.2.2.2]))),(16,.int .i64 fl.length),(17,.int .i64 (Nat.cast i))],[.box (.agg [.int .i64 n,.sl (ss.map (fun t:TS=>V.agg [V.int .i64 t.1,V.int .i64 t.2.1,V.int .i64 t.2.2]))]) .shal],false,27,0⟩) (fun i=>i≤fl.length∧(fl.drop i).all (fun a=>hasB n a.2.2.1)=fl.all fun a=>hasB n a.2.2.1) (fun i=>fl.length - i) 0 ?_ ?_ ?_
  ·refine weak_bothS [2,15,16,17] [0] ⟨?_⟩;rfl
  ·exact ⟨qlk _,rfl⟩
  ·rintro i hok9 Q9 n9 e9 r9;obtain ⟨hi1,hR⟩:=hok9;refine yR [2,15,16,17,18] ⟨?_⟩;refine v_seq ?_;intros;refine v_condS _ rfl ?_ ?_
   ·intro hc1;have hlt:i < fl.length:=by omega
    obtain ⟨⟨x0,x1,x2,x3,x4⟩,hx⟩:∃x:TA,fl[i]? =some x:=⟨fl[i]'(by omega),qla (by omega)⟩;have hst:=all_step (p:=fun a=>hasB n a.2.2.1) hx;have hap:=ap_kind (fleet_ok hTF.2 _ (qlb hx));simp only [] at hap;have hhb:=has_facts (x:=x2) htf.1;refine zn [2,15,16,17] ⟨?_⟩;refine v_seq ?_;intros;refine v_block ?_;intros;have F:=Fc.mk (gdm hx);refine yR [2,6,15,16,17] ⟨?_⟩;refine yR [2,15,16,17,25] ⟨?_⟩;refine v_condS _ rfl ?_ ?_
    ·intro hc2;refine yR [4] ⟨?_⟩;refine zr ⟨?_⟩;exact ret_pure rfl (by rw [dsB,hTF.1,hTF.2,←hR,hst,hhb,decide_eq_false (show ¬x2 < n by omega)];simp) (.inl rfl)
    ·intro hc2;refine zn [2,15,16,17] ⟨?_⟩;refine yV ⟨?_⟩;refine n9 _ (i+1) ?_ ?_ ?_
     ·refine weak_bothS [2,15,16,17] [0] ⟨?_⟩;rfl
     ·exact ⟨by omega,by rw [←hR,hst];simp only [];rw [hhb,decide_eq_true (show 0≤x2 by omega),decide_eq_true (show x2 < n by omega)];rfl⟩
     ·show _ < _;omega
   ·intro hc1;refine zn [] ⟨?_⟩;refine yR [4] ⟨?_⟩;refine zr ⟨?_⟩;exact ret_pure rfl (by rw [dsB,hTF.1,hTF.2,←hR,all_end (by omega)];rfl) (.inl rfl)
theorem dsAsked_con (n:Int) (ss:List TS) (fl:List TA) (node:Int) (hs:ss.length≤1048576) (hl:fl.length≤1048576) (hls:∀t∈fl,t.1.size≤9223372036854775807):Con Tryz.prog 31 [.agg [.int .i64 n,.sl (ss.map (fun t:TS=>V.agg [V.int .i64 t.1,V.int .i64 t.2.1,V.int .i64 t.2.2]))],.sl (fl.map (fun t:TA=>V.agg [V.str t.1,V.int .i64 t.2.1,V.int .i64 t.2.2.1,V.int .i64 t.2.2.2.1,V.int .i64 t.2.2.2.2])),.int .i64 node] [] (.bool (askD n ss fl node)) []:=by
 refine v_con [.tmp 6] [] Tryz.func31 rfl rfl rfl (by simp [Tryz.ntmps31]) ?_;intro Q0 n0 r0;simp only [Tryz.ntmps31,envFrom,Nat.reduceAdd];have T:=Tys.mk (ai Ty.t3 (ai Ty.t4 (ai Ty.t9 (ai Ty.t24 (ai Ty.t26 (ai Ty.t27 (ai Ty.t72 Ty.t98)))))));have F:=Fc.mk True.intro;refine yR [1,2,3] ⟨?_⟩;refine yRcg [6] (dsGood_con n ss fl hs hl hls) (toNode_con n ss node hs) ⟨?_⟩;refine zr ⟨?_⟩;exact ret_pure rfl (by first | exact ask_ds | (rw [←ask_ds];done) | (rw [←ask_ds];simp;done)) (.inl rfl)
end Go.Proofs.YtmhaafinhpopmaaGreat
