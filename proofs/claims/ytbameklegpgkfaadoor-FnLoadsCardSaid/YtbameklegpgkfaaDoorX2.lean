/- What functions compute. No condition. -/
import Derived.Test.YtbameklegpgkfaaDoorUz
import Derived.Test.YtbameklegpgkfaaDoorUty
import Derived.Test.YtbameklegpgkfaaDoorUmG
import Derived.Test.YtbameklegpgkfaaDoorX1
import Derived.Test.YtbameklegpgkfaaDoorShelf
set_option linter.unusedSimpArgs false
set_option linter.unusedVariables false
set_option linter.defProp false
namespace Go.Proofs.YtbameklegpgkfaaDoor
open Go Go.Vm
def keyOf (fl:List (ByteArray×Int×Int×Int×Int)) (ts:List Int) (i:Int):Int:=match fl[i.toNat]? with | some a=>Tm.at_ ts a.2.2.1.toNat | none=>0
def byKey (fl:List (ByteArray×Int×Int×Int×Int)) (ts:List Int) (i j:Int):Bool:=decide (keyOf fl ts i < keyOf fl ts j)
def readyP (fl:List (ByteArray×Int×Int×Int×Int)) (ts:List Int) (a:(ByteArray×Int×Int×Int×Int)):Bool:=availB a && decide (0≤Tm.at_ ts a.2.2.1.toNat)
def readyTo (fl:List (ByteArray×Int×Int×Int×Int)) (ts:List Int):Nat→List Int
  | 0=>[]
  | m+1=>readyTo fl ts m++(match fl[m]? with | some a=>if readyP fl ts a=true then [(m:Int)] else [] | none=>[])
def readyL (fl:List (ByteArray×Int×Int×Int×Int)) (ts:List Int):List Int:=isort (byKey fl ts) (readyTo fl ts fl.length)
theorem ready_step {fl:List (ByteArray×Int×Int×Int×Int)} {ts:List Int} {m:Nat} {a:(ByteArray×Int×Int×Int×Int)} (h:fl[m]? =some a):readyTo fl ts (m+1)=if readyP fl ts a=true then readyTo fl ts m++[(m:Int)] else readyTo fl ts m:=by
  rw [readyTo,h];simp only;split<;>simp
theorem ready_len (fl:List (ByteArray×Int×Int×Int×Int)) (ts:List Int):∀m,(readyTo fl ts m).length≤m
  | 0=>Nat.le_refl _
  | m+1=>by
    have:=ready_len fl ts m
    rw [readyTo,List.length_append]
    split
    · split<;>simp<;>omega
    · simp;omega
theorem ready_mem (fl:List (ByteArray×Int×Int×Int×Int)) (ts:List Int):∀m,∀i∈readyTo fl ts m,∃(k:Nat) (a:(ByteArray×Int×Int×Int×Int)),i=(k:Int)∧k < m∧fl[k]? =some a∧readyP fl ts a=true
  | 0,i,h=>by cases h
  | m + 1,i,h=>by
    rw [readyTo,List.mem_append] at h
    rcases h with h | h
    · obtain ⟨k,a,h1,h2,h3⟩:=ready_mem fl ts m i h
      exact ⟨k,a,h1,by omega,h3⟩
    · split at h
      · rename_i a ha
        split at h
        · rename_i hp
          rw [List.mem_singleton] at h
          exact ⟨m,a,h,by omega,ha,hp⟩
        · cases h
      · cases h
theorem readyL_mem {fl:List (ByteArray×Int×Int×Int×Int)} {ts:List Int} {i:Int} (h:i∈readyL fl ts):∃(k:Nat) (a:(ByteArray×Int×Int×Int×Int)),i=(k:Int)∧k < fl.length∧fl[k]? =some a∧readyP fl ts a=true:=ready_mem fl ts _ i (isort_mem.1 h)
theorem readyL_len (fl:List (ByteArray×Int×Int×Int×Int)) (ts:List Int):(readyL fl ts).length≤fl.length:=by rw [readyL,isort_len];exact ready_len ..
theorem ready_incr (fl:List (ByteArray×Int×Int×Int×Int)) (ts:List Int):∀m,(readyTo fl ts m).Pairwise (· < ·)
  | 0=>List.Pairwise.nil
  | m + 1=>by
    rw [readyTo,List.pairwise_append]
    refine ⟨ready_incr fl ts m,?_,?_⟩
    · split
      · split
        · exact List.pairwise_singleton ..
        · exact List.Pairwise.nil
      · exact List.Pairwise.nil
    · intro a ha b hb
      obtain ⟨k,_,h1,h2,_⟩:=ready_mem fl ts m a ha
      split at hb
      · split at hb
        · rw [List.mem_singleton] at hb;omega
        · cases hb
      · cases hb
theorem readyL_nodup (fl:List (ByteArray×Int×Int×Int×Int)) (ts:List Int):(readyL fl ts).Nodup:=by
  refine (isort_perm (byKey fl ts) _).symm.nodup ?_
  exact (ready_incr fl ts _).imp fun h=>by omega
def pickF (fl:List (ByteArray×Int×Int×Int×Int)) (s:List Int×List Int) (i:Int):List Int×List Int:=
  match fl[i.toNat]? with
  | some a=>if 0 < s.1.getD a.2.1.toNat 0 then (s.1.set a.2.1.toNat (s.1.getD a.2.1.toNat 0 - 1),s.2++[i]) else s
  | none=>s
def pickL (fl:List (ByteArray×Int×Int×Int×Int)) (order need:List Int):List Int×List Int:=order.foldl (pickF fl) (need,[])
theorem pick_step {fl:List (ByteArray×Int×Int×Int×Int)} {order need:List Int} {k:Nat} {i:Int} (h:order[k]? =some i):pickL fl (order.take (k+1)) need=pickF fl (pickL fl (order.take k) need) i:=by
  rw [pickL,List.take_add_one,h,List.foldl_append];rfl
theorem pick_facts {fl:List (ByteArray×Int×Int×Int×Int)} {need:List Int} (hn:need.length=4∧∀x∈need,0≤x∧x≤6):∀(order:List Int),(pickL fl order need).1.length=4∧(∀x∈(pickL fl order need).1,0≤x∧x≤6)∧(pickL fl order need).2.length≤order.length∧(pickL fl order need).2.Sublist order:=by
  have key : ∀ (order:List Int) (s:List Int×List Int) (o0:List Int),(s.1.length=4∧(∀x∈s.1,0≤x∧x≤6)∧s.2.Sublist o0)→((order.foldl (pickF fl) s).1.length=4∧(∀x∈(order.foldl (pickF fl) s).1,0≤x∧x≤6)∧(order.foldl (pickF fl) s).2.Sublist (o0++order)):=by
    intro order
    induction order with
    | nil=>intro s o0 h;rw [List.append_nil];exact h
    | cons i l ih=>
      intro s o0 h
      rw [List.foldl_cons]
      have h2:=ih (pickF fl s i) (o0++[i]) ?_
      · rw [List.append_assoc] at h2;exact h2
      · unfold pickF
        split
        · rename_i a ha
          split
          · rename_i hp
            refine ⟨by rw [List.length_set];exact h.1,fun x hx=> ?_,h.2.2.append (List.Sublist.refl _)⟩
            rcases List.mem_or_eq_of_mem_set hx with q | q
            · exact h.2.1 x q
            · have hk:s.1.getD a.2.1.toNat 0≤6:=by
                rw [List.getD_eq_getElem?_getD] at hp⊢
                cases hz:s.1[a.2.1.toNat]? with
                | none=>rw [hz] at hp;simp at hp
                | some z=>simpa using (h.2.1 z (List.mem_of_getElem? hz)).2
              omega
          · exact ⟨h.1,h.2.1,h.2.2.trans (List.sublist_append_left ..)⟩
        · exact ⟨h.1,h.2.1,h.2.2.trans (List.sublist_append_left ..)⟩
  intro order
  have h:=key order (need,[]) [] ⟨hn.1,hn.2,List.Sublist.refl _⟩
  rw [List.nil_append] at h
  exact ⟨h.1,h.2.1,h.2.2.length_le,h.2.2⟩
theorem bytesLess_trans:∀{a b c:List UInt8},Op.bytesLess a b=true→Op.bytesLess b c=true→Op.bytesLess a c=true
  | _,[],_,h,_=>by simp [Op.bytesLess] at h
  | _,_::_,[],_,h=>by simp [Op.bytesLess] at h
  | [],_::_,_::_,_,_=>rfl
  | x ::a,y::b,z::c,h,k=>by
    simp only [Op.bytesLess,Bool.or_eq_true,decide_eq_true_eq,Bool.and_eq_true,beq_iff_eq] at h k⊢
    rcases h with h | ⟨rfl,h⟩
    · rcases k with k | ⟨rfl,_⟩
      · exact .inl (UInt8.lt_trans h k)
      · exact .inl h
    · rcases k with k | ⟨rfl,k⟩
      · exact .inl k
      · exact .inr ⟨rfl,bytesLess_trans h k⟩
theorem strLt_trans {a b c:ByteArray} (h:strLt a b=true) (k:strLt b c=true):strLt a c=true:=bytesLess_trans h k
theorem strLt_ne {a b:ByteArray} (h:strLt a b=true):a≠b:=by
  intro e;subst e;rw [strLt_irrefl] at h;cases h
theorem chain_pairF {α:Type} {ok:α→Bool} {bf:α→α→Bool} (tr:∀a b c,bf a b=true→bf b c=true→bf a c=true):∀{l:List α} {p:Option α},chainFrom ok bf p l=true→(∀q,p=some q→∀x∈l,bf q x=true)∧l.Pairwise fun x y=>bf x y=true
  | [],_,_=>⟨fun _ _ x hx=>(by cases hx),List.Pairwise.nil⟩
  | y::l,none,h=>by
    simp only [chainFrom,Bool.and_eq_true] at h
    obtain ⟨h1,h2⟩:=chain_pairF tr h.2
    exact ⟨fun q hq=>(by cases hq),List.pairwise_cons.2 ⟨h1 y rfl,h2⟩⟩
  | y::l,some p,h=>by
    simp only [chainFrom,Bool.and_eq_true] at h
    obtain ⟨h1,h2⟩:=chain_pairF tr h.2
    refine ⟨fun q hq x hx=> ?_,List.pairwise_cons.2 ⟨h1 y rfl,h2⟩⟩
    cases hq
    rcases List.mem_cons.1 hx with rfl | q
    · exact h.1.2
    · exact tr _ _ _ h.1.2 (h1 y rfl x q)
theorem chain_pair {α:Type} {ok:α→Bool} {bf:α→α→Bool} (tr:∀a b c,bf a b=true→bf b c=true→bf a c=true) {l:List α} (h:chainAt ok bf l 0=true):l.Pairwise fun x y=>bf x y=true:=(chain_pairF tr h).2
theorem chain_ofF {α:Type} {ok:α→Bool} {bf:α→α→Bool}:∀{l:List α} {p:Option α},(∀x∈l,ok x=true)→(∀q,p=some q→∀x∈l,bf q x=true)→(l.Pairwise fun x y=>bf x y=true)→chainFrom ok bf p l=true
  | [],_,_,_,_=>rfl
  | y::l,none,h1,_,h3=>by
    obtain ⟨a,b⟩:=List.pairwise_cons.1 h3
    rw [chainFrom,h1 y (List.mem_cons_self ..),chain_ofF (fun x hx=>h1 x (List.mem_cons_of_mem _ hx)) (fun q hq x hx=>by cases hq;exact a x hx) b];rfl
  | y::l,some p,h1,h2,h3=>by
    obtain ⟨a,b⟩:=List.pairwise_cons.1 h3
    rw [chainFrom,h1 y (List.mem_cons_self ..),h2 p rfl y (List.mem_cons_self ..),chain_ofF (fun x hx=>h1 x (List.mem_cons_of_mem _ hx)) (fun q hq x hx=>by cases hq;exact a x hx) b];rfl
theorem chain_splitF {α:Type} {ok:α→Bool} {bf:α→α→Bool}:∀{l:List α} {p:Option α},chainFrom ok bf p l=(chainFrom (fun _=>true) bf p l && l.all ok)
  | [],_=>rfl
  | y::l,none=>by
    rw [chainFrom,chainFrom,chain_splitF,List.all_cons]
    cases ok y<;>cases chainFrom (fun _=>true) bf (some y) l<;>simp
  | y::l,some p=>by
    rw [chainFrom,chainFrom,chain_splitF,List.all_cons]
    cases ok y<;>cases bf p y<;>cases chainFrom (fun _=>true) bf (some y) l<;>simp
theorem chain_split {α:Type} {ok:α→Bool} {bf:α→α→Bool} {l:List α}:chainAt ok bf l 0=(chainAt (fun _=>true) bf l 0 && l.all ok):=chain_splitF
theorem first_at {α:Type} {p:α→Bool}:∀{l:List α} {k i:Nat} {a:α},l[k]? =some a→p a=true→(∀j b,j < k→l[j]? =some b→p b=false)→firstP p i l=((i+k:Nat):Int)
  | [],_,_,_,h,_,_=>by simp at h
  | x::l,0,i,a,h,hp,_=>by
    obtain rfl:x=a:=by simpa using h
    rw [firstP,if_pos hp];rfl
  | x::l,k+1,i,a,h,hp,hn=>by
    have h0:=hn 0 x (Nat.succ_pos k) rfl
    rw [firstP,if_neg (by rw [h0];decide),first_at (k:=k) (by simpa using h) hp (fun j b hj hb=>hn (j+1) b (by omega) (by simpa using hb))]
    congr 1;omega
theorem fleet_find {fl:List (ByteArray×Int×Int×Int×Int)} (h:fl.Pairwise fun x y=>apBf x y=true) {k:Nat} {a:(ByteArray×Int×Int×Int×Int)} (ha:fl[k]? =some a):firstP (fun x:(ByteArray×Int×Int×Int×Int)=>decide (x.1=a.1)) 0 fl=(k:Int):=by
  rw [first_at ha (by simp) ?_,Nat.zero_add]
  intro j b hj hb
  rw [List.pairwise_iff_getElem] at h
  obtain ⟨hk,ha'⟩:=List.getElem?_eq_some_iff.1 ha
  obtain ⟨hj',hb'⟩:=List.getElem?_eq_some_iff.1 hb
  have:=h j k hj' hk hj
  rw [ha',hb'] at this
  simpa using strLt_ne this
def findA (fl:List (ByteArray×Int×Int×Int×Int)) (s:ByteArray):Int:=firstP (fun x:(ByteArray×Int×Int×Int×Int)=>decide (x.1=s)) 0 fl
def attOne (fl:List (ByteArray×Int×Int×Int×Int)) (ts:List Int) (s:ByteArray):Int:=if findA fl s < 0 then -1 else keyOf fl ts (findA fl s)
def attB (fl:List (ByteArray×Int×Int×Int×Int)) (ts:List Int) (names:List ByteArray):Bool:=chainAt (fun s=>decide (0≤attOne fl ts s)) strLt names 0 && !decide ((names.length:Int)=0)
def attV (fl:List (ByteArray×Int×Int×Int×Int)) (ts:List Int) (names:List ByteArray):Int:=names.foldl (fun m s=>max m (attOne fl ts s)) 0
def mostOf (fl:List (ByteArray×Int×Int×Int×Int)) (ts:List Int) (order:List Int):Int:=order.foldl (fun m i=>max m (keyOf fl ts i)) 0
def idxTo (order:List Int) (m:Nat):List Int:=((List.range m).map fun k:Nat=>(k:Int)).filter fun i=>decide (i∈order)
def sentTo (fl:List (ByteArray×Int×Int×Int×Int)) (order:List Int):Nat→List ByteArray
  | 0=>[]
  | m+1=>sentTo fl order m++(match fl[m]? with | some a=>if (m:Int)∈order then [a.1] else [] | none=>[])
theorem sent_step {fl:List (ByteArray×Int×Int×Int×Int)} {order:List Int} {m:Nat} {a:(ByteArray×Int×Int×Int×Int)} (h:fl[m]? =some a):sentTo fl order (m+1)=if (m:Int)∈order then sentTo fl order m++[a.1] else sentTo fl order m:=by
  rw [sentTo,h];simp only;split<;>simp
def nameAt (fl:List (ByteArray×Int×Int×Int×Int)) (i:Int):ByteArray:=match fl[i.toNat]? with | some a=>a.1 | none=>⟨#[]⟩
theorem idx_succ (order:List Int) (m:Nat):idxTo order (m+1)=idxTo order m++(if (m:Int)∈order then [(m:Int)] else []):=by
  rw [idxTo,List.range_succ,List.map_append,List.filter_append,idxTo]
  congr 1
  by_cases h:(m:Int)∈order<;>simp [h]
theorem sent_idx (fl:List (ByteArray×Int×Int×Int×Int)) (order:List Int):∀m,m≤fl.length→sentTo fl order m=(idxTo order m).map (nameAt fl)
  | 0,_=>rfl
  | m+1,h=>by
    have ha:fl[m]? =some fl[m]:=List.getElem?_eq_getElem (by omega)
    rw [sent_step ha,idx_succ,List.map_append,sent_idx fl order m (by omega)]
    split
    · simp [nameAt,ha]
    · simp
theorem idx_perm {order:List Int} {m:Nat} (hn:order.Nodup) (hv:∀i∈order,∃k:Nat,i=(k:Int)∧k < m):(idxTo order m).Perm order:=by
  refine (List.perm_ext_iff_of_nodup ?_ hn).2 fun i=> ?_
  · refine List.Pairwise.filter _ ?_
    exact List.Pairwise.map _ (fun a b h e=>h (by omega)) List.nodup_range
  · rw [idxTo,List.mem_filter,decide_eq_true_eq]
    constructor
    · exact fun h=>h.2
    · intro h
      obtain ⟨k,hk,hm⟩:=hv i h
      exact ⟨List.mem_map.2 ⟨k,List.mem_range.2 hm,hk.symm⟩,h⟩
theorem att_name {fl:List (ByteArray×Int×Int×Int×Int)} {ts:List Int} (hf:fl.Pairwise fun x y=>apBf x y=true) {k:Nat} (hk:k < fl.length):attOne fl ts (nameAt fl (k:Int))=keyOf fl ts (k:Int):=by
  have ha:fl[k]? =some fl[k]:=List.getElem?_eq_getElem hk
  have hn:nameAt fl (k:Int)=fl[k].1:=by rw [nameAt,Int.toNat_natCast,ha]
  rw [attOne,findA,hn,fleet_find hf ha,if_neg (by omega)]
theorem sent_facts {fl:List (ByteArray×Int×Int×Int×Int)} {ts:List Int} {order:List Int} (hf:fl.Pairwise fun x y=>apBf x y=true) (hn:order.Nodup) (hv:∀i∈order,∃k:Nat,i=(k:Int)∧k < fl.length∧0≤keyOf fl ts i) :
    (sentTo fl order fl.length).length=order.length∧attV fl ts (sentTo fl order fl.length)=mostOf fl ts order∧attB fl ts (sentTo fl order fl.length)= !decide ((order.length:Int)=0):=by
  have hp:=idx_perm (m:=fl.length) hn fun i hi=>by obtain ⟨k,h1,h2,_⟩:=hv i hi;exact ⟨k,h1,h2⟩
  have hs:=sent_idx fl order fl.length (Nat.le_refl _)
  have hval:∀i∈idxTo order fl.length,attOne fl ts (nameAt fl i)=keyOf fl ts i:=by
    intro i hi
    obtain ⟨k,rfl,h2,_⟩:=hv i (hp.mem_iff.1 hi)
    exact att_name hf h2
  refine ⟨by rw [hs,List.length_map,hp.length_eq],?_,?_⟩
  · have e:∀(l:List Int) (a:Int),(∀i∈l,attOne fl ts (nameAt fl i)=keyOf fl ts i)→(l.map (nameAt fl)).foldl (fun m s=>max m (attOne fl ts s)) a=l.foldl (fun m i=>max m (keyOf fl ts i)) a:=by
      intro l
      induction l with
      | nil=>intro a _;rfl
      | cons x l ih=>intro a h;rw [List.map_cons,List.foldl_cons,List.foldl_cons,h x (List.mem_cons_self ..),ih _ fun i hi=>h i (List.mem_cons_of_mem _ hi)]
    rw [attV,hs,e _ _ hval,mostOf]
    exact hp.foldl_eq' (fun x _ y _ z=>by omega) 0
  · have hlen:(sentTo fl order fl.length).length=order.length:=by rw [hs,List.length_map,hp.length_eq]
    have hch:chainAt (fun s=>decide (0≤attOne fl ts s)) strLt (sentTo fl order fl.length) 0=true:=by
      refine chain_ofF (fun s hs'=> ?_) (fun q hq=>(by cases hq)) ?_
      · rw [hs] at hs'
        obtain ⟨i,hi,rfl⟩:=List.mem_map.1 hs'
        obtain ⟨k,_,_,h3⟩:=hv i (hp.mem_iff.1 hi)
        rw [hval i hi];simpa using h3
      · show (sentTo fl order fl.length).Pairwise _
        rw [hs,List.pairwise_map]
        have hinc:(idxTo order fl.length).Pairwise (· < ·):=by
          refine List.Pairwise.filter _ ?_
          exact List.Pairwise.map _ (fun a b h=>by omega) List.pairwise_lt_range
        refine hinc.imp_of_mem ?_
        intro a b ha hb hab
        obtain ⟨k,rfl,h2,_⟩:=hv a (hp.mem_iff.1 ha)
        obtain ⟨j,rfl,h4,_⟩:=hv b (hp.mem_iff.1 hb)
        rw [List.pairwise_iff_getElem] at hf
        have:=hf k j h2 h4 (by omega)
        rw [apBf] at this
        simpa [nameAt,List.getElem?_eq_getElem h2,List.getElem?_eq_getElem h4] using this
    rw [attB,hch,hlen];rfl
def dsB (n:Int) (ss:List (Int×Int×Int)) (fl:List (ByteArray×Int×Int×Int×Int)):Bool:=townB n ss && fleetB fl && fl.all fun a=>hasB n a.2.2.1
def askD (n:Int) (ss:List (Int×Int×Int)) (fl:List (ByteArray×Int×Int×Int×Int)) (node:Int):Bool:=dsB n ss fl && hasB n node
theorem town_facts {n:Int} {ss:List (Int×Int×Int)} (h:townB n ss=true):(1≤n∧n≤14)∧ss.length≤40∧∀s∈ss,strOK n s=true:=by
  simp only [townB,townH,Bool.and_eq_true,decide_eq_true_eq,Bool.not_eq_true',decide_eq_false_iff_not] at h
  exact ⟨h.1.1,by omega,chain_ok h.2⟩
theorem has_facts {n x:Int} (h1:1≤n∧n≤14):hasB n x=(decide (0≤x) && decide (x < n)):=by
  rw [hasB,wrap64 (by omega) (by omega)]
  congr 1
  exact decide_eq_decide.2 (by omega)
theorem fleet_ok {fl:List (ByteArray×Int×Int×Int×Int)} (h:fleetB fl=true):∀a∈fl,apOK a=true:=by
  simp only [fleetB,Bool.and_eq_true] at h
  exact chain_ok h.1
structure DsFacts (n:Int) (ss:List (Int×Int×Int)) (fl:List (ByteArray×Int×Int×Int×Int)):Prop where
  hn:1≤n∧n≤14
  hsl:ss.length≤40
  hss:∀s∈ss,strOK n s=true
  hfl:fl.length≤12
  hap:∀a∈fl,(0≤a.2.1∧a.2.1≤3)∧0≤a.2.2.1∧a.2.2.1 < n
  hinc:fl.Pairwise fun x y=>apBf x y=true
theorem ds_facts {n:Int} {ss:List (Int×Int×Int)} {fl:List (ByteArray×Int×Int×Int×Int)} (h:dsB n ss fl=true):DsFacts n ss fl:=by
  simp only [dsB,Bool.and_eq_true,List.all_eq_true] at h
  obtain ⟨⟨h1,h2⟩,h3⟩:=h
  obtain ⟨t1,t2,t3⟩:=town_facts h1
  refine ⟨t1,t2,t3,fleet_len h2,fun a ha=> ?_,?_⟩
  · have k1:=ap_kind (fleet_ok h2 a ha)
    have k2:=h3 a ha
    rw [has_facts t1] at k2
    simp only [Bool.and_eq_true,decide_eq_true_eq] at k2
    exact ⟨⟨k1.1,k1.2.1⟩,k2⟩
  · simp only [fleetB,Bool.and_eq_true] at h2
    exact chain_pair (bf:=apBf) (fun a b c h k=>strLt_trans (show strLt a.1 b.1=true from h) (show strLt b.1 c.1=true from k)) h2.1
theorem ask_facts {n:Int} {ss:List (Int×Int×Int)} {fl:List (ByteArray×Int×Int×Int×Int)} {node:Int} (h:askD n ss fl node=true):DsFacts n ss fl∧0≤node∧node < n:=by
  rw [askD,Bool.and_eq_true] at h
  have hd:=ds_facts h.1
  have h2:=h.2
  rw [has_facts hd.hn] at h2
  simp only [Bool.and_eq_true,decide_eq_true_eq] at h2
  exact ⟨hd,h2⟩
theorem all_step {α:Type} {p:α→Bool} {l:List α} {i:Nat} {x:α} (h:l[i]? =some x):(l.drop i).all p=(p x && (l.drop (i+1)).all p):=by
  rw [getElem_drop_cons h,List.all_cons]
theorem all_end {α:Type} {p:α→Bool} {l:List α} {i:Nat} (h:l.length≤i):(l.drop i).all p=true:=by
  rw [List.drop_of_length_le h];rfl
theorem ask_ds {n:Int} {ss:List (Int×Int×Int)} {fl:List (ByteArray×Int×Int×Int×Int)} {x:Int}:(dsB n ss fl && (townB n ss && hasB n x))=askD n ss fl x:=by
  rw [askD]
  by_cases h:townB n ss=true
  · rw [h];rfl
  · have h1:townB n ss=false:=by simpa using h
    have h2:dsB n ss fl=false:=by rw [dsB,h1];rfl
    rw [h2];rfl
def ltOf (c:Int→Int→Int) (x y:Int):Bool:=decide (c x y < 0)
theorem isort_one (lt:Int→Int→Bool) (l:List Int):isort lt (l.take 1)++l.drop 1=l:=by
  cases l with
  | nil=>rfl
  | cons x l=>rfl
theorem data_mem {lt:Int→Int→Bool} {l:List Int} {i j:Nat} {x y:Int} (hx:l[i]? =some x) (h:(insAt (isort lt (l.take i)) x (l.drop (i+1)) j)[j]? =some y∨y∈insAt (isort lt (l.take i)) x (l.drop (i+1)) j):y∈l:=by
  have h2:y∈insAt (isort lt (l.take i)) x (l.drop (i+1)) j:=by
    rcases h with h | h
    · exact List.mem_of_getElem? h
    · exact h
  rcases insAt_mem h2 with q | q | q
  · rw [q];exact List.mem_of_getElem? hx
  · exact List.mem_of_mem_take (isort_mem.1 q)
  · exact List.mem_of_mem_drop q
theorem snocI {l:List Int} {x:Int}:l.map (V.int .i64)++[V.int .i64 x]=(l++[x]).map (V.int .i64):=by rw [List.map_append];rfl
theorem lt_key (fl:List (ByteArray×Int×Int×Int×Int)) (ts:List Int):ltOf (fun a b=>cmpI (keyOf fl ts a) (keyOf fl ts b))=byKey fl ts:=by
  funext a b
  rw [ltOf,byKey]
  refine decide_eq_decide.2 ?_
  unfold cmpI
  by_cases h:keyOf fl ts a < keyOf fl ts b
  · simp [h]
  · simp only [h,if_false,iff_false]
    split<;>omega
def allT (fl:List (ByteArray×Int×Int×Int×Int)) (ts:List Int):List Int:=fl.map fun a=>Tm.at_ ts a.2.2.1.toNat
theorem ready_is {fl:List (ByteArray×Int×Int×Int×Int)} {ts:List Int} {x:(ByteArray×Int×Int×Int×Int)} {w:Nat} {p:Int} (hw:x.2.2.1=(w:Int)) (hp:ts[w]? =some p):readyP fl ts x=(availB x && decide (0≤p)):=by
  rw [readyP,hw,Int.toNat_natCast,Tm.at_get hp]
theorem key_is {fl:List (ByteArray×Int×Int×Int×Int)} {ts:List Int} {k:Nat} {x:(ByteArray×Int×Int×Int×Int)} {w:Nat} {p:Int} (hx:fl[k]? =some x) (hw:x.2.2.1=(w:Int)) (hp:ts[w]? =some p):keyOf fl ts (k:Int)=p:=by
  rw [keyOf,Int.toNat_natCast,hx]
  simp only [hw,Int.toNat_natCast,Tm.at_get hp]
def idxFromS (x:ByteArray):Nat→List ByteArray→Int
  | _,[]=>-1
  | i,y::l=>if x=y then i else idxFromS x (i+1) l
theorem idxS_step {x y:ByteArray} {l:List ByteArray} {i:Nat} (h:l[i]? =some y):idxFromS x i (l.drop i)=if x=y then (i:Int) else idxFromS x (i+1) (l.drop (i+1)):=by
  rw [getElem_drop_cons h,idxFromS]
theorem idxS_end {x:ByteArray} {l:List ByteArray} {i k:Nat} (h:l.length≤i):idxFromS x k (l.drop i)=-1:=by
  rw [List.drop_of_length_le h,idxFromS]
def inS (x:ByteArray) (l:List ByteArray):Bool:=l.any fun y=>decide (x=y)
theorem idxS_mem (x:ByteArray):∀(l:List ByteArray) (i:Nat),decide (0≤idxFromS x i l)=inS x l
  | [],i=>by rw [idxFromS];rfl
  | y::l,i=>by
    rw [idxFromS,inS,List.any_cons]
    split
    · rename_i h;simp [h]
    · rename_i h;rw [idxS_mem x l (i+1)];simp [h,inS]
theorem inS_step {x y:ByteArray} {l:List ByteArray} {i:Nat} (h:l[i]? =some y):inS x (l.drop i)=(decide (x=y) || inS x (l.drop (i+1))):=by
  rw [getElem_drop_cons h,inS,List.any_cons];rfl
theorem inS_end {x:ByteArray} {l:List ByteArray} {i:Nat} (h:l.length≤i):inS x (l.drop i)=false:=by
  rw [List.drop_of_length_le h];rfl
theorem findA_cases (fl:List (ByteArray×Int×Int×Int×Int)) (s:ByteArray):findA fl s=-1∨∃(k:Nat) (x:(ByteArray×Int×Int×Int×Int)),findA fl s=(k:Int)∧fl[k]? =some x∧x.1=s:=by
  by_cases h:findA fl s=-1
  · exact .inl h
  · obtain ⟨k,h1,h2,_,x,h4,h5⟩:=first_some h
    exact .inr ⟨k,x,by rw [findA,h2,Nat.zero_add],h4,by simpa using h5⟩
def attR (n:Int) (ss:List (Int×Int×Int)) (fl:List (ByteArray×Int×Int×Int×Int)) (node:Int) (names:List ByteArray):Bool:=askD n ss fl node && attB fl (tmL n ss node) names
def attW (n:Int) (ss:List (Int×Int×Int)) (fl:List (ByteArray×Int×Int×Int×Int)) (node:Int) (names:List ByteArray):Int:=if attR n ss fl node names=true then attV fl (tmL n ss node) names else 0
theorem attOne_none {fl:List (ByteArray×Int×Int×Int×Int)} {ts:List Int} {s:ByteArray} (h:findA fl s=-1):attOne fl ts s=-1:=by rw [attOne,if_pos (by omega)]
theorem attOne_some {fl:List (ByteArray×Int×Int×Int×Int)} {ts:List Int} {s:ByteArray} {k:Nat} {x:(ByteArray×Int×Int×Int×Int)} {w:Nat} {p:Int} (h:findA fl s=(k:Int)) (hx:fl[k]? =some x) (hw:x.2.2.1=(w:Int)) (hp:ts[w]? =some p):attOne fl ts s=p:=by
  rw [attOne,if_neg (by omega),h,key_is hx hw hp]
theorem attV_step {fl:List (ByteArray×Int×Int×Int×Int)} {ts:List Int} {names:List ByteArray} {i:Nat} {s:ByteArray} (h:names[i]? =some s):attV fl ts (names.take (i+1))=max (attV fl ts (names.take i)) (attOne fl ts s):=by
  rw [attV,List.take_add_one,h,Option.toList,List.foldl_append];rfl
theorem attB_split {fl:List (ByteArray×Int×Int×Int×Int)} {ts:List Int} {names:List ByteArray}:attB fl ts names=((chainAt (fun _:ByteArray=>true) strLt names 0 && names.all fun s=>decide (0≤attOne fl ts s)) && !decide ((names.length:Int)=0)):=by
  rw [attB,chain_split]
def need4 (l:List Int):Bool:=decide ((l.length:Int)=4) && l.all (fun x:Int=>inR x 0 6)
theorem need4_facts {l:List Int} (h:need4 l=true):l.length=4∧∀x∈l,0≤x∧x≤6:=by
  simp only [need4,Bool.and_eq_true,decide_eq_true_eq,List.all_eq_true,inR] at h
  exact ⟨by omega,h.2⟩
def incOK (x:(Int×Int×Bool×List ByteArray)):Bool:=(decide (1≤x.1) && decide (x.1≤999)) && (decide (0≤x.2.1) && decide (x.2.1≤13)) && !decide (12 < (x.2.2.2.length:Int)) && !(x.2.2.1 && decide (0 < (x.2.2.2.length:Int))) && chainAt nameB strLt x.2.2.2 0
def clashB (pre:List (Int×Int×Bool×List ByteArray)) (x:(Int×Int×Bool×List ByteArray)):Bool:=x.2.2.2.any fun s=>pre.any fun y=>inS s y.2.2.2
def incP (l:List (Int×Int×Bool×List ByteArray)) (i:Nat):Bool:=match l[i]? with
  | none=>true
  | some x=>incOK x && (decide (i=0) || match l[i - 1]? with | some y=>decide (y.1 < x.1) | none=>true) && !clashB (l.take i) x
def incsB (l:List (Int×Int×Bool×List ByteArray)):Bool:=(List.range l.length).all (incP l) && decide ((l.length:Int)≤8)
theorem incs_bad {l:List (Int×Int×Bool×List ByteArray)} {i:Nat} (hi:i < l.length) (h:incP l i=false):incsB l=false:=by
  have:(List.range l.length).all (incP l)=false:=by
    rw [List.all_eq_false]
    exact ⟨i,List.mem_range.2 hi,by rw [h];simp⟩
  rw [incsB,this];rfl
theorem incs_good {l:List (Int×Int×Bool×List ByteArray)} {i:Nat} (hi:l.length≤i) (h:∀j,j < i→incP l j=true):incsB l=decide ((l.length:Int)≤8):=by
  have:(List.range l.length).all (incP l)=true:=by
    rw [List.all_eq_true]
    intro j hj
    exact h j (Nat.lt_of_lt_of_le (List.mem_range.1 hj) hi)
  rw [incsB,this];rfl
theorem upto_step {P:Nat→Bool} {i:Nat} (h:∀j,j < i→P j=true) (hi:P i=true):∀j,j < i+1→P j=true:=by
  intro j hj
  rcases Nat.lt_or_ge j i with q | q
  · exact h j q
  · have:j=i:=by omega
    subst this;exact hi
theorem incP_zero {l:List (Int×Int×Bool×List ByteArray)} {x:(Int×Int×Bool×List ByteArray)} (h:l[0]? =some x):incP l 0=(incOK x && !clashB (l.take 0) x):=by
  rw [incP,h];simp
theorem incP_succ {l:List (Int×Int×Bool×List ByteArray)} {i:Nat} {x y:(Int×Int×Bool×List ByteArray)} (h0:0 < i) (hy:l[i - 1]? =some y) (h:l[i]? =some x):incP l i=(incOK x && decide (y.1 < x.1) && !clashB (l.take i) x):=by
  rw [incP,h]
  simp only [hy,decide_eq_false (show ¬i=0 by omega),Bool.false_or]
def openF (l:List (Int×Int×Bool×List ByteArray)) (n:Int):Int:=firstP (fun x:(Int×Int×Bool×List ByteArray)=>decide (x.1=n) && !x.2.2.1) 0 l
def commF (l:List (Int×Int×Bool×List ByteArray)) (s:ByteArray):Int:=firstP (fun x:(Int×Int×Bool×List ByteArray)=>inS s x.2.2.2) 0 l
theorem comm_any (l:List (Int×Int×Bool×List ByteArray)) (s:ByteArray):decide (0≤commF l s)=l.any fun y=>inS s y.2.2.2:=first_any _ l 0
theorem any_swap {α β:Type} (f:α→β→Bool) (l:List α) (m:List β):(l.any fun a=>m.any fun b=>f a b)=(m.any fun b=>l.any fun a=>f a b):=by
  rw [Bool.eq_iff_iff]
  simp only [List.any_eq_true]
  exact ⟨fun ⟨a,ha,b,hb,h⟩=>⟨b,hb,a,ha,h⟩,fun ⟨b,hb,a,ha,h⟩=>⟨a,ha,b,hb,h⟩⟩
def busyA (x:(ByteArray×Int×Int×Int×Int)):Bool:=decide (1≤x.2.2.2.2) && decide (x.2.2.2.2≤3)
def realNeed (l:List Int):Bool:=need4 l && !l.all (fun x:Int=>inR x 0 0)
def wantP (ins:List (Int×Int×Bool×List ByteArray)) (ws:List (Int×List Int)) (i:Nat):Bool:=match ws[i]? with
  | none=>true
  | some w=>decide (0≤openF ins w.1) && realNeed w.2 && (decide (i=0) || match ws[i - 1]? with | some y=>decide (y.1 < w.1) | none=>true)
def inP (n:Int) (fl:List (ByteArray×Int×Int×Int×Int)) (x:(Int×Int×Bool×List ByteArray)):Bool:=hasB n x.2.1 && x.2.2.2.all fun s=>decide (0≤findA fl s)
def fleetP (ins:List (Int×Int×Bool×List ByteArray)) (a:(ByteArray×Int×Int×Int×Int)):Bool:= !(busyA a != decide (0≤commF ins a.1))
def ctlH (n:Int) (ss:List (Int×Int×Int)) (fl:List (ByteArray×Int×Int×Int×Int)) (ins:List (Int×Int×Bool×List ByteArray)) (ws:List (Int×List Int)):Bool:=dsB n ss fl && incsB ins && !decide (8 < (ws.length:Int))
def ctlB (n:Int) (ss:List (Int×Int×Int)) (fl:List (ByteArray×Int×Int×Int×Int)) (ins:List (Int×Int×Bool×List ByteArray)) (ws:List (Int×List Int)):Bool:=ctlH n ss fl ins ws && ins.all (inP n fl) && fl.all (fleetP ins) && (List.range ws.length).all (wantP ins ws)
theorem ctl_h {n:Int} {ss:List (Int×Int×Int)} {fl:List (ByteArray×Int×Int×Int×Int)} {ins:List (Int×Int×Bool×List ByteArray)} {ws:List (Int×List Int)} (h:ctlH n ss fl ins ws=false):ctlB n ss fl ins ws=false:=by rw [ctlB,h];rfl
theorem ctl_i {n:Int} {ss:List (Int×Int×Int)} {fl:List (ByteArray×Int×Int×Int×Int)} {ins:List (Int×Int×Bool×List ByteArray)} {ws:List (Int×List Int)} (h:ins.all (inP n fl)=false):ctlB n ss fl ins ws=false:=by rw [ctlB,h];simp
theorem ctl_f {n:Int} {ss:List (Int×Int×Int)} {fl:List (ByteArray×Int×Int×Int×Int)} {ins:List (Int×Int×Bool×List ByteArray)} {ws:List (Int×List Int)} (h:fl.all (fleetP ins)=false):ctlB n ss fl ins ws=false:=by rw [ctlB,h];simp
theorem ctl_w {n:Int} {ss:List (Int×Int×Int)} {fl:List (ByteArray×Int×Int×Int×Int)} {ins:List (Int×Int×Bool×List ByteArray)} {ws:List (Int×List Int)} {i:Nat} (hi:i < ws.length) (h:wantP ins ws i=false):ctlB n ss fl ins ws=false:=by
  have:(List.range ws.length).all (wantP ins ws)=false:=by
    rw [List.all_eq_false]
    exact ⟨i,List.mem_range.2 hi,by rw [h];simp⟩
  rw [ctlB,this];simp
theorem ctl_yes {n:Int} {ss:List (Int×Int×Int)} {fl:List (ByteArray×Int×Int×Int×Int)} {ins:List (Int×Int×Bool×List ByteArray)} {ws:List (Int×List Int)} {i:Nat} (h1:ctlH n ss fl ins ws=true) (h2:ins.all (inP n fl)=true) (h3:fl.all (fleetP ins)=true) (hi:ws.length≤i) (h4:∀j,j < i→wantP ins ws j=true):ctlB n ss fl ins ws=true:=by
  have:(List.range ws.length).all (wantP ins ws)=true:=by
    rw [List.all_eq_true]
    intro j hj
    exact h4 j (Nat.lt_of_lt_of_le (List.mem_range.1 hj) hi)
  rw [ctlB,h1,h2,h3,this];rfl
theorem wantP_zero {ins:List (Int×Int×Bool×List ByteArray)} {ws:List (Int×List Int)} {w:(Int×List Int)} (h:ws[0]? =some w):wantP ins ws 0=(decide (0≤openF ins w.1) && realNeed w.2):=by
  rw [wantP,h];simp
theorem wantP_succ {ins:List (Int×Int×Bool×List ByteArray)} {ws:List (Int×List Int)} {w y:(Int×List Int)} {i:Nat} (h0:0 < i) (hy:ws[i - 1]? =some y) (h:ws[i]? =some w):wantP ins ws i=(decide (0≤openF ins w.1) && realNeed w.2 && decide (y.1 < w.1)):=by
  rw [wantP,h]
  simp only [hy,decide_eq_false (show ¬i=0 by omega),Bool.false_or]
theorem ctlh_facts {n:Int} {ss:List (Int×Int×Int)} {fl:List (ByteArray×Int×Int×Int×Int)} {ins:List (Int×Int×Bool×List ByteArray)} {ws:List (Int×List Int)} (h:ctlH n ss fl ins ws=true):DsFacts n ss fl∧(∀x∈ins,0≤x.2.1):=by
  simp only [ctlH,Bool.and_eq_true] at h
  refine ⟨ds_facts h.1.1,fun x hx=> ?_⟩
  obtain ⟨i,hi,rfl⟩:=List.getElem_of_mem hx
  have h2:=h.1.2
  simp only [incsB,Bool.and_eq_true,List.all_eq_true,List.mem_range] at h2
  have h3:=h2.1 i hi
  rw [incP,List.getElem?_eq_getElem hi] at h3
  simp only [Bool.and_eq_true,incOK,decide_eq_true_eq] at h3
  omega
theorem max_zero {x:Int} {l:List Int} (h:need4 (x::l)=true):decide (mostL l x=0)=(x::l).all (fun x:Int=>inR x 0 0):=by
  obtain ⟨_,hb⟩:=need4_facts h
  have key:∀(l:List Int) (a:Int),0≤a→(∀y∈l,0≤y)→decide (mostL l a=0)=(decide (a=0) && l.all (fun x:Int=>inR x 0 0)):=by
    intro l
    induction l with
    | nil=>intro a _ _;simp [mostL]
    | cons y l ih=>
      intro a ha hl
      have hy:=hl y (List.mem_cons_self ..)
      have hs:mostL (y::l) a=mostL l (if y > a then y else a):=rfl
      rw [hs,ih _ (by split<;>omega) fun z hz=>hl z (List.mem_cons_of_mem _ hz),List.all_cons]
      have e:decide ((if y > a then y else a)=0)=(decide (a=0) && inR y 0 0):=by
        rw [inR]
        by_cases h1:y > a
        · rw [if_pos h1,decide_eq_false (show ¬y=0 by omega),decide_eq_false (show ¬y≤0 by omega)];simp
        · rw [if_neg h1]
          by_cases h2:a=0
          · rw [decide_eq_true h2,decide_eq_true (show 0≤y by omega),decide_eq_true (show y≤0 by omega)];rfl
          · rw [decide_eq_false h2];rfl
      rw [e,Bool.and_assoc]
  rw [key l x (hb x (List.mem_cons_self ..)).1 fun y hy=>(hb y (List.mem_cons_of_mem _ hy)).1,List.all_cons]
  congr 1
  have:=(hb x (List.mem_cons_self ..)).1
  rw [inR,decide_eq_true this,Bool.true_and]
  exact decide_eq_decide.2 (by omega)
def orNil {α:Type} (b:Bool) (l:List α):List α:=bif b then l else []
theorem orNil_t {α:Type} (l:List α):orNil true l=l:=rfl
theorem orNil_f {α:Type} (l:List α):orNil false l=[]:=rfl
theorem orNil_len {α:Type} {b:Bool} {l:List α} {n:Nat} (h:l.length≤n):(orNil b l).length≤n:=by
  cases b
  · exact Nat.zero_le _
  · exact h
theorem orNil_all {α:Type} {b:Bool} {l:List α} {P:α→Prop} (h:∀x∈l,P x):∀x∈orNil b l,P x:=by
  cases b
  · intro x hx;cases hx
  · exact h
theorem firstP_at {α:Type} {p:α→Bool} {l:List α} (h:0≤firstP p 0 l):∃(k:Nat) (x:α),l[k]? =some x∧p x=true∧firstP p 0 l=(k:Int):=by
  obtain ⟨k,_,h2,_,x,h4,h5⟩:=first_some (p:=p) (l:=l) (i:=0) (by omega)
  exact ⟨k,x,h4,h5,by rw [h2,Nat.zero_add]⟩
theorem findA_at {fl:List (ByteArray×Int×Int×Int×Int)} {s:ByteArray} (h:0≤findA fl s):∃(k:Nat) (x:(ByteArray×Int×Int×Int×Int)),fl[k]? =some x∧x.1=s∧findA fl s=(k:Int):=by
  rcases findA_cases fl s with q | ⟨k,x,h1,h2,h3⟩
  · omega
  · exact ⟨k,x,h2,h3,h1⟩
theorem openF_at {ins:List (Int×Int×Bool×List ByteArray)} {n:Int} (h:0≤openF ins n):∃(k:Nat) (x:(Int×Int×Bool×List ByteArray)),ins[k]? =some x∧(x.1=n∧x.2.2.1=false)∧openF ins n=(k:Int):=by
  obtain ⟨k,x,h1,h2,h3⟩:=firstP_at h
  simp only [Bool.and_eq_true,decide_eq_true_eq,Bool.not_eq_true'] at h2
  exact ⟨k,x,h1,h2,h3⟩
theorem commF_at {ins:List (Int×Int×Bool×List ByteArray)} {s:ByteArray} (h:0≤commF ins s):∃(k:Nat) (x:(Int×Int×Bool×List ByteArray)),ins[k]? =some x∧inS s x.2.2.2=true∧commF ins s=(k:Int):=firstP_at h
structure CtlFacts (n:Int) (ss:List (Int×Int×Int)) (fl:List (ByteArray×Int×Int×Int×Int)) (ins:List (Int×Int×Bool×List ByteArray)) (ws:List (Int×List Int)):Prop where
  ds:DsFacts n ss fl
  town:townB n ss=true
  ins8:incsB ins=true
  node:∀x∈ins,0≤x.2.1∧x.2.1 < n
  names:∀x∈ins,∀s∈x.2.2.2,0≤findA fl s
  busy:∀a∈fl,busyA a=decide (0≤commF ins a.1)
  ws8:ws.length≤8
  want:∀w∈ws,0≤openF ins w.1∧realNeed w.2=true
theorem ctl_facts {n:Int} {ss:List (Int×Int×Int)} {fl:List (ByteArray×Int×Int×Int×Int)} {ins:List (Int×Int×Bool×List ByteArray)} {ws:List (Int×List Int)} (h:ctlB n ss fl ins ws=true):CtlFacts n ss fl ins ws:=by
  simp only [ctlB,ctlH,Bool.and_eq_true,List.all_eq_true,decide_eq_true_eq,Bool.not_eq_true',decide_eq_false_iff_not,List.mem_range] at h
  obtain ⟨⟨⟨⟨⟨h1,h2⟩,h3⟩,h4⟩,h5⟩,h6⟩:=h
  have hd:=ds_facts h1
  refine ⟨hd,?_,h2,fun x hx=> ?_,fun x hx s hs=> ?_,fun a ha=> ?_,by omega,fun w hw=> ?_⟩
  · simp only [dsB,Bool.and_eq_true] at h1;exact h1.1.1
  · have:=h4 x hx
    rw [inP,Bool.and_eq_true,has_facts hd.hn,Bool.and_eq_true,decide_eq_true_eq,decide_eq_true_eq] at this
    exact this.1
  · have:=h4 x hx
    rw [inP,Bool.and_eq_true,List.all_eq_true] at this
    simpa using this.2 s hs
  · have:=h5 a ha
    rw [fleetP] at this
    simpa using this
  · obtain ⟨i,hi,rfl⟩:=List.getElem_of_mem hw
    have:=h6 i hi
    rw [wantP,List.getElem?_eq_getElem hi] at this
    simp only [Bool.and_eq_true,decide_eq_true_eq] at this
    exact ⟨this.1.1,this.1.2⟩
theorem ctl_town {n:Int} {ss:List (Int×Int×Int)} {fl:List (ByteArray×Int×Int×Int×Int)} {ins:List (Int×Int×Bool×List ByteArray)} {ws:List (Int×List Int)} (h:ctlB n ss fl ins ws=true):townB n ss=true:=(ctl_facts h).town
theorem want_need {n:Int} {ss:List (Int×Int×Int)} {fl:List (ByteArray×Int×Int×Int×Int)} {ins:List (Int×Int×Bool×List ByteArray)} {ws:List (Int×List Int)} (h:CtlFacts n ss fl ins ws):∀w∈ws,w.2.length=4∧∀x∈w.2,0≤x∧x≤6:=by
  intro w hw
  have:=(h.want w hw).2
  rw [realNeed,Bool.and_eq_true] at this
  exact need4_facts this.1
theorem new_ctl (n:Int) (ss:List (Int×Int×Int)) (fl:List (ByteArray×Int×Int×Int×Int)):ctlB n ss fl [] []=(dsB n ss fl && !fl.any busyA):=by
  have h1:ctlH n ss fl [] []=dsB n ss fl:=by simp [ctlH,incsB]
  have h2:(fl.all (fleetP []))= !fl.any busyA:=by
    rw [List.not_any_eq_all_not]
    congr 1
    funext a
    simp [fleetP,commF,firstP]
  rw [ctlB,h1,h2]
  simp
def freeTo (fl:List (ByteArray×Int×Int×Int×Int)) (i:Nat):List ByteArray:=((fl.take i).filter availB).map fun a=>a.1
theorem free_yes {fl:List (ByteArray×Int×Int×Int×Int)} {i:Nat} {x:(ByteArray×Int×Int×Int×Int)} (h:fl[i]? =some x) (hp:availB x=true):freeTo fl (i+1)=freeTo fl i++[x.1]:=by
  rw [freeTo,List.take_add_one,h,Option.toList,List.filter_append];simp [hp,freeTo]
theorem free_no {fl:List (ByteArray×Int×Int×Int×Int)} {i:Nat} {x:(ByteArray×Int×Int×Int×Int)} (h:fl[i]? =some x) (hp:availB x=false):freeTo fl (i+1)=freeTo fl i:=by
  rw [freeTo,List.take_add_one,h,Option.toList,List.filter_append];simp [hp,freeTo]
theorem free_len (fl:List (ByteArray×Int×Int×Int×Int)) (i:Nat):(freeTo fl i).length≤i:=by
  rw [freeTo,List.length_map]
  exact Nat.le_trans (List.length_filter_le ..) (by rw [List.length_take];omega)
theorem free_len2 (fl:List (ByteArray×Int×Int×Int×Int)) (i:Nat):(freeTo fl i).length≤fl.length:=by
  rw [freeTo,List.length_map]
  exact Nat.le_trans (List.length_filter_le ..) (by rw [List.length_take];omega)
theorem freeTo_zero (fl:List (ByteArray×Int×Int×Int×Int)):freeTo fl 0=[]:=rfl
def stA (fl:List (ByteArray×Int×Int×Int×Int)) (s:ByteArray):Int:=match fl[(findA fl s).toNat]? with | some a=>a.2.2.2.2 | none=>0
theorem stA_at {fl:List (ByteArray×Int×Int×Int×Int)} {s:ByteArray} {k:Nat} {x:(ByteArray×Int×Int×Int×Int)} (h:findA fl s=(k:Int)) (hx:fl[k]? =some x):stA fl s=x.2.2.2.2:=by
  rw [stA,h,Int.toNat_natCast,hx]
def namesAt (ins:List (Int×Int×Bool×List ByteArray)) (n:Int):List ByteArray:=match ins[(openF ins n).toNat]? with | some x=>x.2.2.2 | none=>[]
theorem namesAt_at {ins:List (Int×Int×Bool×List ByteArray)} {n:Int} {k:Nat} {x:(Int×Int×Bool×List ByteArray)} (h:openF ins n=(k:Int)) (hx:ins[k]? =some x):namesAt ins n=x.2.2.2:=by
  rw [namesAt,h,Int.toNat_natCast,hx]
def atB (n:Int) (ss:List (Int×Int×Int)) (fl:List (ByteArray×Int×Int×Int×Int)) (ins:List (Int×Int×Bool×List ByteArray)) (ws:List (Int×List Int)) (m:Int):Bool:=ctlB n ss fl ins ws && decide (0≤openF ins m)
def statesL (fl:List (ByteArray×Int×Int×Int×Int)) (ins:List (Int×Int×Bool×List ByteArray)) (m:Int):List Int:=(namesAt ins m).map (stA fl)
theorem take_map_step {α β:Type} {f:α→β} {l:List α} {i:Nat} {x:α} (h:l[i]? =some x):(l.take (i+1)).map f=(l.take i).map f++[f x]:=by
  rw [List.take_add_one,h,Option.toList,List.map_append];rfl
def addL:List Int→List Int→List Int
  | a::xs,b::ys=>(a+b)::addL xs ys
  | xs,[]=>xs
  | [],_=>[]
theorem addL_nil:∀l:List Int,addL l []=l
  | []=>rfl
  | _::_=>rfl
theorem addL_len:∀a b:List Int,(addL a b).length=a.length
  | [],[]=>rfl
  | [],_::_=>rfl
  | _::_,[]=>rfl
  | a::xs,b::ys=>by rw [addL,List.length_cons,List.length_cons,addL_len xs ys]
theorem addL_step:∀{acc l:List Int} {k:Nat} {a b:Int},acc[k]? =some a→l[k]? =some b→(addL acc (l.take k))[k]? =some a∧(addL acc (l.take k)).set k (a+b)=addL acc (l.take (k+1))
  | [],_,_,_,_,h,_=>by simp at h
  | _::_,[],_,_,_,_,h=>by simp at h
  | x::acc,y::l,0,a,b,h,k=>by
    simp at h k
    subst h k
    refine ⟨by simp [addL],?_⟩
    simp [addL,addL_nil]
  | x::acc,y::l,k+1,a,b,h,q=>by
    obtain ⟨h1,h2⟩:=addL_step (acc:=acc) (l:=l) (k:=k) (a:=a) (b:=b) (by simpa using h) (by simpa using q)
    refine ⟨by simpa [addL] using h1,?_⟩
    rw [List.take_succ_cons,addL,List.set_cons_succ,h2,List.take_succ_cons,addL]
theorem addL_bound:∀{acc l:List Int} {A B:Int},0≤B→(∀x∈acc,0≤x∧x≤A)→(∀x∈l,0≤x∧x≤B)→∀x∈addL acc l,0≤x∧x≤A+B
  | [],[],_,_,_,_,_,x,hx=>by cases hx
  | [],_::_,_,_,_,_,_,x,hx=>by cases hx
  | a::acc,[],A,B,hB,h1,_,x,hx=>by
    have:=h1 x hx;omega
  | a ::acc,b::l,A,B,hB,h1,h2,x,hx=>by
    rcases List.mem_cons.1 hx with e | e
    · have q1:=h1 a (List.mem_cons_self ..)
      have q2:=h2 b (List.mem_cons_self ..)
      subst e;omega
    · exact addL_bound hB (fun y hy=>h1 y (List.mem_cons_of_mem _ hy)) (fun y hy=>h2 y (List.mem_cons_of_mem _ hy)) x e
def sumTo (ws:List (Int×List Int)) (i:Nat):List Int:=(ws.take i).foldl (fun acc w=>addL acc w.2) [0,0,0,0]
theorem sumTo_step {ws:List (Int×List Int)} {i:Nat} {w:(Int×List Int)} (h:ws[i]? =some w):sumTo ws (i+1)=addL (sumTo ws i) w.2:=by
  rw [sumTo,List.take_add_one,h,Option.toList,List.foldl_append];rfl
theorem sumTo_len (ws:List (Int×List Int)):∀i,(sumTo ws i).length=4
  | 0=>rfl
  | i+1=>by
    cases h:ws[i]? with
    | none=>rw [sumTo,List.take_add_one,h];simp only [Option.toList,List.append_nil];exact sumTo_len ws i
    | some w=>rw [sumTo_step h,addL_len,sumTo_len ws i]
theorem sumTo_bound {ws:List (Int×List Int)} (hw:∀w∈ws,w.2.length=4∧∀x∈w.2,0≤x∧x≤6):∀i,∀x∈sumTo ws i,0≤x∧x≤6 * (i:Int)
  | 0,x,hx=>by
    have:sumTo ws 0=[0,0,0,0]:=rfl
    rw [this] at hx
    simp at hx
    omega
  | i + 1,x,hx=>by
    cases h:ws[i]? with
    | none=>
      have e:sumTo ws (i+1)=sumTo ws i:=by rw [sumTo,List.take_add_one,h];simp only [Option.toList,List.append_nil];rfl
      rw [e] at hx
      have:=sumTo_bound hw i x hx
      omega
    | some w=>
      rw [sumTo_step h] at hx
      have:=addL_bound (by omega) (sumTo_bound hw i) (hw w (List.mem_of_getElem? h)).2 x hx
      omega
def arrB (fl:List (ByteArray×Int×Int×Int×Int)) (s:ByteArray):Bool:=decide (0≤findA fl s) && decide (stA fl s=2)
def arrF (fl:List (ByteArray×Int×Int×Int×Int)) (ins:List (Int×Int×Bool×List ByteArray)) (s:ByteArray):List (ByteArray×Int×Int×Int×Int):=match fl[(findA fl s).toNat]?,ins[(commF ins s).toNat]? with
  | some a,some x=>fl.set (findA fl s).toNat (a.1,a.2.1,x.2.1,a.2.2.2.1,3)
  | _,_=>fl
theorem arrF_at {fl:List (ByteArray×Int×Int×Int×Int)} {ins:List (Int×Int×Bool×List ByteArray)} {s:ByteArray} {k m:Nat} {a:(ByteArray×Int×Int×Int×Int)} {x:(Int×Int×Bool×List ByteArray)} (h1:findA fl s=(k:Int)) (h2:fl[k]? =some a) (h3:commF ins s=(m:Int)) (h4:ins[m]? =some x):arrF fl ins s=fl.set k (a.1,a.2.1,x.2.1,a.2.2.2.1,3):=by
  rw [arrF,h1,h3,Int.toNat_natCast,Int.toNat_natCast,h2,h4]
theorem arrF_len (fl:List (ByteArray×Int×Int×Int×Int)) (ins:List (Int×Int×Bool×List ByteArray)) (s:ByteArray):(arrF fl ins s).length=fl.length:=by
  rw [arrF]
  split
  · rw [List.length_set]
  · rfl
theorem arr_comm {n:Int} {ss:List (Int×Int×Int)} {fl:List (ByteArray×Int×Int×Int×Int)} {ins:List (Int×Int×Bool×List ByteArray)} {ws:List (Int×List Int)} (h:CtlFacts n ss fl ins ws) {s:ByteArray} {k:Nat} {a:(ByteArray×Int×Int×Int×Int)} (h1:fl[k]? =some a) (h2:a.1=s) (h3:a.2.2.2.2=2):0≤commF ins s:=by
  have:=h.busy a (List.mem_of_getElem? h1)
  rw [busyA,h3,h2] at this
  simpa using this.symm
theorem str_digit {n:Nat} (h:n < 10):strOf [IntKind.u8.wrap (48+(n:Int))]=⟨#[UInt8.ofNat (48+n)]⟩:=by
  have e:IntKind.u8.wrap (48+(n:Int))=((48+n:Nat):Int):=by
    simp only [IntKind.wrap,IntKind.bits,IntKind.signed]
    simp
    omega
  rw [e]
  rfl
set_option maxHeartbeats 1000000 in
theorem l1Num_step (n:Nat) (hn:n < 1000000000) (ih:∀m,m < n→Con Tryd.prog 100 [.int .i64 (Nat.cast m)] [] (.str (numB m)) []):Con Tryd.prog 100 [.int .i64 (Nat.cast n)] [] (.str (numB n)) []:=by
 refine v_con [.tmp 2] [] Tryd.func100 rfl rfl rfl (by simp [Tryd.ntmps100]) ?_
 intro Q0 n0 r0
 simp only [Tryd.ntmps100,envFrom,Nat.reduceAdd]
 have T:=Tys.mk (And.intro Ty.t3 (And.intro Ty.t5 (And.intro Ty.t9 Ty.t22)))
 have F:=Fc.mk True.intro
 refine v_seqR [0] ?_;intro K1 k1;refine zAssign ⟨?_⟩;refine k1 _ ?_;refine zk ⟨?_⟩;refine v_seq ?_;intro Q2 n2 e2 r2;refine v_seqR [0,4] ?_;intro K3 k3;refine zq26 ⟨?_⟩;refine k3 _ ?_;refine zk ⟨?_⟩;refine v_condS _ rfl ?_ ?_
 ·intro hc0
  have h10:n < 10:=by omega
  refine v_seqR [2] ?_;intro K5 k5;refine zMove ⟨?_⟩;refine zBinOpW ⟨?_⟩;refine zConvert ⟨?_⟩;refine zBuildSlice ⟨?_⟩;refine zConvert ⟨?_⟩;refine zAssign ⟨?_⟩;refine k5 _ ?_;refine zk ⟨?_⟩;refine v_ret ?_;refine r2 _ ?_;refine r0 _ ?_;refine zf ⟨?_⟩
  exact ret_pure rfl (by rw [str_digit h10,numB_lt h10]) (.inl rfl)
 ·intro hc0
  have h10:¬n < 10:=by omega
  have hq:(n:Int).tdiv 10=((n / 10:Nat):Int):=rfl
  have hm:(n:Int).tmod 10=((n % 10:Nat):Int):=rfl
  have hm10:n % 10 < 10:=Nat.mod_lt _ (by omega)
  have hsz:(numB (n / 10)).size≤9:=numB_size 9 (n / 10) (by omega) (by omega)
  have hst:=str_digit hm10
  have hz:∀b:UInt8,(ByteArray.mk #[b]).size=1:=fun _=>rfl
  refine v_skip ?_;refine n2 _ _ (weak_keep [0] _) ?_;refine zk ⟨?_⟩;refine v_seq ?_;intro Q6 n6 e6 r6;refine v_draw (by kernel_rfl) ?_;intro K7 q7 k7
  show aAny _ _ _ _ 11 (Array.replicate 11 false) _
  have F:=Fc.mk (And.intro hq (And.intro hm (And.intro hst hz)))
  refine zdMove q7 true 0 10 ?_;refine zdBinOpW q7 true 1 11 ?_;refine zdMove q7 true 3 13 ?_;refine zdBinOp q7 true 4 14 ?_;refine zdBinOpW q7 true 5 15 ?_;refine zdConvert q7 true 6 16 ?_;refine aAny_two 2 7 rfl rfl (by kernel_rfl) ?_ ?_
  ·refine zsc (ih (n / 10) (by omega)) ⟨?_⟩
   refine zoBuildSlice 7 ⟨?_⟩;refine zdConvertY q7 true 8 18 ?_;refine zdBinOpW q7 true 9 19 ?_;refine zoAssign 10 ⟨?_⟩;refine aAny_done (by kernel_rfl) ?_;refine k7 _ ?_;refine n6 _ _ (weak_keep [2] _) ?_;refine zk ⟨?_⟩;refine v_ret ?_;refine r0 _ ?_;refine zf ⟨?_⟩
   exact ret_pure rfl (by rw [numB_ge h10]) (.inl rfl)
  ·refine zsBuildSlice ⟨?_⟩
   refine zdConvertY q7 true 8 18 ?_;refine zoc 2 (ih (n / 10) (by omega)) ⟨?_⟩;refine zdBinOpW q7 true 9 19 ?_;refine zoAssign 10 ⟨?_⟩;refine aAny_done (by kernel_rfl) ?_;refine k7 _ ?_;refine n6 _ _ (weak_keep [2] _) ?_;refine zk ⟨?_⟩;refine v_ret ?_;refine r0 _ ?_;refine zf ⟨?_⟩
   exact ret_pure rfl (by rw [numB_ge h10]) (.inl rfl)
theorem l1Num_con (n:Int) (h:0≤n∧n < 1000000000):Con Tryd.prog 100 [.int .i64 n] [] (.str (numB n.toNat)) []:=by
  have key:∀k:Nat,k < 1000000000→Con Tryd.prog 100 [.int .i64 (Nat.cast k)] [] (.str (numB k)) []:=by
    intro k
    induction k using Nat.strongRecOn with
    | ind k ih=>exact fun hk=>l1Num_step k hk fun m hm=>ih m hm (by omega)
  obtain ⟨m,hm⟩:∃m:Nat,n=(m:Int):=⟨n.toNat,by omega⟩
  subst hm
  rw [Int.toNat_natCast]
  exact key m (by omega)
theorem Tryd.pow10:(Tryd.prog.globalNamed "internal/strconv.uint64pow10").isSome=true:=by kernel_rfl
theorem itoa_con (n:Int) (h:0≤n∧n < 1000000000):Con Tryd.prog 113 [.int .i64 n] [] (.str (numB n.toNat)) []:=by
  rw [←itoa_nat h.1]
  obtain ⟨g,hg⟩:=Option.isSome_iff_exists.1 Tryd.pow10
  exact con_int1 ⟨_,Tryd.func113,rfl,rfl⟩ (fun w μ=>.str _) (fun w ht=>Tryd.strconv_Itoa n (by omega) (by omega) w (tabIs_of hg ht))
theorem joinB_two (a b s:ByteArray):joinB [a,b] s=a++s++b:=by
  unfold joinB Lib.join
  apply ByteArray.ext
  simp [List.intercalate,ByteArray.data_append]
def catB (ws:List ByteArray):ByteArray:=ws.foldl (·++·) .empty
theorem foldB_acc:∀(ws:List ByteArray) (s:ByteArray),ws.foldl (·++·) s=s++catB ws
  | [],s=>by simp [catB]
  | w::ws,s=>by
    have h1:=foldB_acc ws (s++w)
    have h2:=foldB_acc ws (ByteArray.empty++w)
    unfold catB
    rw [List.foldl_cons,List.foldl_cons,h1,h2,ByteArray.empty_append,ByteArray.append_assoc]
theorem joinB_cat (ws:List ByteArray):joinB ws .empty=catB ws:=by
  have key:∀ws:List ByteArray,(catB ws).data.toList=(ws.map (·.data.toList)).flatten:=by
    intro ws
    induction ws with
    | nil=>rfl
    | cons w ws ih=>
      have:=foldB_acc ws (ByteArray.empty++w)
      unfold catB at ih⊢
      rw [List.foldl_cons,this,ByteArray.empty_append,ByteArray.data_append,Array.toList_append]
      unfold catB
      rw [ih];rfl
  have h2:∀ws:List (List UInt8),Lib.join ws []=ws.flatten:=by
    intro ws
    unfold Lib.join
    induction ws with
    | nil=>rfl
    | cons w ws ih=>cases ws<;>simp_all [List.intercalate]
  unfold joinB
  apply ByteArray.ext
  apply Array.ext'
  show Lib.join (ws.map (·.data.toList)) []=_
  rw [h2,key]
theorem join_size:∀(ws:List ByteArray) (sep:ByteArray) (m:Nat),(∀w∈ws,w.size≤m)→(Lib.join (ws.map (·.data.toList)) sep.data.toList).length≤ws.length * (m+sep.size)
  | [],_,_,_=>Nat.zero_le _
  | w ::ws,sep,m,h=>by
    have h1:=h w (List.mem_cons_self ..)
    have h2:=join_size ws sep m fun x hx=>h x (List.mem_cons_of_mem _ hx)
    have e1:w.data.toList.length=w.size:=rfl
    have e2:sep.data.toList.length=sep.size:=rfl
    unfold Lib.join at h2⊢
    rw [List.length_cons,Nat.add_mul]
    cases ws with
    | nil=>simp [List.intercalate] at h2⊢;omega
    | cons y ws=>
      simp [List.intercalate] at h2⊢
      omega
theorem joinB_size (ws:List ByteArray) (sep:ByteArray) (m:Nat) (h:∀w∈ws,w.size≤m):(joinB ws sep).size≤ws.length * (m+sep.size):=by
  have:=join_size ws sep m h
  have e:(joinB ws sep).size=(Lib.join (ws.map (·.data.toList)) sep.data.toList).length:=by
    show (Lib.join (ws.map (·.data.toList)) sep.data.toList).toArray.size=_
    exact List.size_toArray
  rw [e];exact this
def numS (l:List Int):List ByteArray:=l.map fun n=>numB n.toNat
theorem numS_size {l:List Int} (h:∀n∈l,0≤n∧n < 1000000000):∀w∈numS l,w.size≤9:=by
  intro w hw
  obtain ⟨n,hn,rfl⟩:=List.mem_map.1 hw
  have:=h n hn
  exact numB_size 9 _ (by omega) (by omega)
theorem snoc_str {a:List ByteArray} {x:ByteArray}:a.map V.str++[V.str x]=(a++[x]).map V.str:=by simp
end Go.Proofs.YtbameklegpgkfaaDoor
