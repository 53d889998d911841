/- What functions compute. No condition. -/
import Derived.Test.YtaefoaghpehbpaaGreatUz
import Derived.Test.YtaefoaghpehbpaaGreatUty
import Derived.Test.YtaefoaghpehbpaaGreatUmG
import Derived.Test.YtaefoaghpehbpaaGreatX3
import Derived.Test.YtaefoaghpehbpaaGreatX4
import Derived.Test.YtaefoaghpehbpaaGreatX1
import Derived.Test.YtaefoaghpehbpaaGreatX2
set_option linter.unusedSimpArgs false
set_option linter.unusedVariables false
set_option linter.defProp false
namespace Go.Proofs.YtaefoaghpehbpaaGreat
open Go Go.Vm
set_option maxHeartbeats 1000000 in
theorem indexFuncAppliance_con (l:List (ByteArray×Int×Int×Int×Int)) (g:Nat) (caps:List V) (p:ByteArray×Int×Int×Int×Int→Bool) (hl:l.length≤1048576) (hc:Caps caps) (hg:∀x0 x1 x2 x3 x4,(x0,x1,x2,x3,x4)∈l→Con Tryz.prog g (V.agg [V.str x0,V.int .i64 x1,V.int .i64 x2,V.int .i64 x3,V.int .i64 x4]::caps) [] (.bool (p (x0,x1,x2,x3,x4))) []):Con Tryz.prog 142 [.sl (l.map (fun t:ByteArray×Int×Int×Int×Int=>V.agg [V.str t.1,V.int .i64 t.2.1,V.int .i64 t.2.2.1,V.int .i64 t.2.2.2.1,V.int .i64 t.2.2.2.2])),.fn g caps] [] (.int .i64 (firstP p 0 l)) []:=by
 refine v_con [.tmp 4] [] Tryz.func142 rfl rfl rfl (by simp [Tryz.ntmps142]) ?_
 intro Q0 n0 r0
 simp only [Tryz.ntmps142,envFrom,Nat.reduceAdd]
 have T:=Tys.mk (And.intro Ty.t3 (And.intro Ty.t4 (And.intro Ty.t9 (And.intro Ty.t32 Ty.t96))))
 have F:=Fc.mk True.intro
 refine yR [0,1] ⟨?_⟩;refine v_seq ?_;intros;refine yR [0,1,7,8] ⟨?_⟩;refine v_block ?_;intro Q4 n4 x4 e4 r4;refine v_loop (fun i=>⟨[(0,.sl (l.map (fun t:ByteArray×Int×Int×Int×Int=>V.agg [V.str t.1,V.int .i64 t.2.1,V.int .i64 t.2.2.1,V.int .i64 t.2.2.2.1,V.int .i64 t.2.2.2.2]))),(1,.fn g caps),(7,.int .i64 l.length),(8,.int .i64 (Nat.cast i))],[],false,19,0⟩) (fun i=>i≤l.length∧firstP p i (l.drop i)=firstP p 0 l) (fun i=>l.length - i) 0 ?_ ?_ ?_
 ·refine weak_of [0,1,7,8] ?_
  simp only [keep_mk,keepE_nil,keepE_cons,look_cons,look_nil,Nat.reduceEqDiff,reduceIte]
  rfl
 ·exact ⟨Nat.zero_le _,rfl⟩
 ·rintro i hok5 Q5 n5 e5 r5
  obtain ⟨hi1,hR⟩:=hok5
  refine yR [0,1,7,8,9] ⟨?_⟩;refine v_seq ?_;intros;refine v_condS _ rfl ?_ ?_
  ·intro hc0
   have hlt:i < l.length:=by omega
   obtain ⟨⟨x0,x1,x2,x3,x4⟩,hx⟩:∃x:ByteArray×Int×Int×Int×Int,l[i]? =some x:=⟨l[i]'(by omega),List.getElem?_eq_getElem (by omega)⟩
   have hst:=first_step (p:=p) hx
   refine zn [0,1,7,8] ⟨?_⟩;refine v_seq ?_;intros;refine v_block ?_;intros
   have F:=Fc.mk (fun f=>getD_map (f:=f) hx)
   refine yR [0,1,5,7,8] ⟨?_⟩;refine v_seqR [0,1,5,7,8,16] ?_;intro K12 k12;refine zq2 ⟨?_⟩;refine zIndexAddr ⟨?_⟩;refine zLoad ⟨?_⟩;refine zcc (hg x0 x1 x2 x3 x4 (List.mem_of_getElem? hx)) ⟨?_⟩;refine k12 _ ?_;refine zk ⟨?_⟩;refine v_condS _ rfl ?_ ?_
   ·intro hc1
    refine yR [4] ⟨?_⟩;refine zr ⟨?_⟩
    exact ret_pure rfl (by rw [←hR,hst,if_pos hc1]) (.inl rfl)
   ·intro hc1
    refine zn [0,1,7,8] ⟨?_⟩;refine yV ⟨?_⟩;refine n5 _ (i+1) ?_ ?_ ?_
    ·refine weak_bothC [0,1,7,8] [] ⟨?_⟩
     rfl
    ·exact ⟨by omega,by rw [←hR,hst,if_neg (by simp [hc1])]⟩
    ·show _ < _;omega
  ·intro hc0
   refine zn [] ⟨?_⟩;refine yR [4] ⟨?_⟩;refine zr ⟨?_⟩
   exact ret_pure rfl (by rw [←hR,first_end (by omega)]) (.inl rfl)
set_option maxHeartbeats 1000000 in
theorem containsFuncAppliance_con (l:List (ByteArray×Int×Int×Int×Int)) (g:Nat) (caps:List V) (p:ByteArray×Int×Int×Int×Int→Bool) (hl:l.length≤1048576) (hc:Caps caps) (hg:∀x0 x1 x2 x3 x4,(x0,x1,x2,x3,x4)∈l→Con Tryz.prog g (V.agg [V.str x0,V.int .i64 x1,V.int .i64 x2,V.int .i64 x3,V.int .i64 x4]::caps) [] (.bool (p (x0,x1,x2,x3,x4))) []):Con Tryz.prog 196 [.sl (l.map (fun t:ByteArray×Int×Int×Int×Int=>V.agg [V.str t.1,V.int .i64 t.2.1,V.int .i64 t.2.2.1,V.int .i64 t.2.2.2.1,V.int .i64 t.2.2.2.2])),.fn g caps] [] (.bool (l.any p)) []:=by
 refine v_con [.tmp 4] [] Tryz.func196 rfl rfl rfl (by simp [Tryz.ntmps196]) ?_
 intro Q0 n0 r0
 simp only [Tryz.ntmps196,envFrom,Nat.reduceAdd]
 have T:=Tys.mk (And.intro Ty.t3 (And.intro Ty.t9 (And.intro Ty.t32 Ty.t96)))
 have F:=Fc.mk True.intro
 refine yR [0,1] ⟨?_⟩;refine v_seqR [4] ?_;intro K2 k2;refine zq1 ⟨?_⟩;refine zcc (indexFuncAppliance_con l g caps p hl hc hg) ⟨?_⟩;refine zBinOp ⟨?_⟩;refine zAssign ⟨?_⟩;refine k2 _ ?_;refine zq3 ⟨?_⟩
 exact ret_pure rfl (by rw [first_any]) (.inl rfl)
set_option maxHeartbeats 1000000 in
theorem cloneAppliance_con (l:List (ByteArray×Int×Int×Int×Int)) (hl:l.length≤1048576):Con Tryz.prog 139 [.sl (l.map (fun t:ByteArray×Int×Int×Int×Int=>V.agg [V.str t.1,V.int .i64 t.2.1,V.int .i64 t.2.2.1,V.int .i64 t.2.2.2.1,V.int .i64 t.2.2.2.2]))] [] (.ref 0) [.arr (l.map (fun t:ByteArray×Int×Int×Int×Int=>V.agg [V.str t.1,V.int .i64 t.2.1,V.int .i64 t.2.2.1,V.int .i64 t.2.2.2.1,V.int .i64 t.2.2.2.2])) .flat]:=by
 have hns:(l.map (fun t:ByteArray×Int×Int×Int×Int=>V.agg [V.str t.1,V.int .i64 t.2.1,V.int .i64 t.2.2.1,V.int .i64 t.2.2.2.1,V.int .i64 t.2.2.2.2])).all V.noSl=true:=by rw [List.all_map,List.all_eq_true];intro a _;rfl
 refine v_con [.tmp 2] [] Tryz.func139 rfl rfl rfl (by simp [Tryz.ntmps139]) ?_
 intro Q0 n0 r0
 simp only [Tryz.ntmps139,envFrom,Nat.reduceAdd]
 have T:=Tys.mk (And.intro Ty.t3 (And.intro Ty.t9 (And.intro Ty.t32 Ty.t96)))
 have F:=Fc.mk True.intro
 have F:=Fc.mk hns
 refine yR [0] ⟨?_⟩;refine v_seq ?_;intros;refine v_seqR [0,4] ?_;intro K3 k3;refine zMove ⟨?_⟩;refine zNil ⟨?_⟩
 intro nb4 hnb4
 refine k3 _ ?_;refine zk ⟨?_⟩;refine v_condS _ rfl ?_ ?_
 ·intro hc0
  have hnil:l=[]:=by cases l with | nil=>rfl | cons a b=>have:=hnb4 (by simp);rw [hc0] at this;cases this
  refine yR [2] ⟨?_⟩;refine zr ⟨?_⟩
  rw [hnil];exact ret_refK rfl rfl rfl
 ·intro hc0
  refine zn [0] ⟨?_⟩;refine yR [2] ⟨?_⟩;refine zr ⟨?_⟩
  exact ret_refK rfl rfl (by simp)
def keyOf (fl:List (ByteArray×Int×Int×Int×Int)) (ts:List Int) (i:Int):Int:=match fl[i.toNat]? with | some a=>Tm.at_ ts a.2.2.1.toNat | none=>0
def byKey (fl:List (ByteArray×Int×Int×Int×Int)) (ts:List Int) (i j:Int):Bool:=decide (keyOf fl ts i < keyOf fl ts j)
def readyP (fl:List (ByteArray×Int×Int×Int×Int)) (ts:List Int) (a:(ByteArray×Int×Int×Int×Int)):Bool:=availB a && decide (0≤Tm.at_ ts a.2.2.1.toNat)
def readyTo (fl:List (ByteArray×Int×Int×Int×Int)) (ts:List Int):Nat→List Int
  | 0=>[]
  | m+1=>readyTo fl ts m++(match fl[m]? with | some a=>if readyP fl ts a=true then [(m:Int)] else [] | none=>[])
def readyL (fl:List (ByteArray×Int×Int×Int×Int)) (ts:List Int):List Int:=isort (byKey fl ts) (readyTo fl ts fl.length)
theorem ready_step {fl:List (ByteArray×Int×Int×Int×Int)} {ts:List Int} {m:Nat} {a:(ByteArray×Int×Int×Int×Int)} (h:fl[m]? =some a):readyTo fl ts (m+1)=if readyP fl ts a=true then readyTo fl ts m++[(m:Int)] else readyTo fl ts m:=by
  rw [readyTo,h];simp only;split<;>simp
theorem ready_len (fl:List (ByteArray×Int×Int×Int×Int)) (ts:List Int):∀m,(readyTo fl ts m).length≤m
  | 0=>Nat.le_refl _
  | m+1=>by
    have:=ready_len fl ts m
    rw [readyTo,List.length_append]
    split
    · split<;>simp<;>omega
    · simp;omega
theorem ready_mem (fl:List (ByteArray×Int×Int×Int×Int)) (ts:List Int):∀m,∀i∈readyTo fl ts m,∃(k:Nat) (a:(ByteArray×Int×Int×Int×Int)),i=(k:Int)∧k < m∧fl[k]? =some a∧readyP fl ts a=true
  | 0,i,h=>by cases h
  | m + 1,i,h=>by
    rw [readyTo,List.mem_append] at h
    rcases h with h | h
    · obtain ⟨k,a,h1,h2,h3⟩:=ready_mem fl ts m i h
      exact ⟨k,a,h1,by omega,h3⟩
    · split at h
      · rename_i a ha
        split at h
        · rename_i hp
          rw [List.mem_singleton] at h
          exact ⟨m,a,h,by omega,ha,hp⟩
        · cases h
      · cases h
theorem readyL_mem {fl:List (ByteArray×Int×Int×Int×Int)} {ts:List Int} {i:Int} (h:i∈readyL fl ts):∃(k:Nat) (a:(ByteArray×Int×Int×Int×Int)),i=(k:Int)∧k < fl.length∧fl[k]? =some a∧readyP fl ts a=true:=ready_mem fl ts _ i (isort_mem.1 h)
theorem readyL_len (fl:List (ByteArray×Int×Int×Int×Int)) (ts:List Int):(readyL fl ts).length≤fl.length:=by rw [readyL,isort_len];exact ready_len ..
theorem ready_incr (fl:List (ByteArray×Int×Int×Int×Int)) (ts:List Int):∀m,(readyTo fl ts m).Pairwise (· < ·)
  | 0=>List.Pairwise.nil
  | m + 1=>by
    rw [readyTo,List.pairwise_append]
    refine ⟨ready_incr fl ts m,?_,?_⟩
    · split
      · split
        · exact List.pairwise_singleton ..
        · exact List.Pairwise.nil
      · exact List.Pairwise.nil
    · intro a ha b hb
      obtain ⟨k,_,h1,h2,_⟩:=ready_mem fl ts m a ha
      split at hb
      · split at hb
        · rw [List.mem_singleton] at hb;omega
        · cases hb
      · cases hb
theorem readyL_nodup (fl:List (ByteArray×Int×Int×Int×Int)) (ts:List Int):(readyL fl ts).Nodup:=by
  refine (isort_perm (byKey fl ts) _).symm.nodup ?_
  exact (ready_incr fl ts _).imp fun h=>by omega
def pickF (fl:List (ByteArray×Int×Int×Int×Int)) (s:List Int×List Int) (i:Int):List Int×List Int:=
  match fl[i.toNat]? with
  | some a=>if 0 < s.1.getD a.2.1.toNat 0 then (s.1.set a.2.1.toNat (s.1.getD a.2.1.toNat 0 - 1),s.2++[i]) else s
  | none=>s
def pickL (fl:List (ByteArray×Int×Int×Int×Int)) (order need:List Int):List Int×List Int:=order.foldl (pickF fl) (need,[])
theorem pick_step {fl:List (ByteArray×Int×Int×Int×Int)} {order need:List Int} {k:Nat} {i:Int} (h:order[k]? =some i):pickL fl (order.take (k+1)) need=pickF fl (pickL fl (order.take k) need) i:=by
  rw [pickL,List.take_add_one,h,List.foldl_append];rfl
theorem pick_facts {fl:List (ByteArray×Int×Int×Int×Int)} {need:List Int} (hn:need.length=4∧∀x∈need,0≤x∧x≤6):∀(order:List Int),(pickL fl order need).1.length=4∧(∀x∈(pickL fl order need).1,0≤x∧x≤6)∧(pickL fl order need).2.length≤order.length∧(pickL fl order need).2.Sublist order:=by
  have key : ∀ (order:List Int) (s:List Int×List Int) (o0:List Int),(s.1.length=4∧(∀x∈s.1,0≤x∧x≤6)∧s.2.Sublist o0)→((order.foldl (pickF fl) s).1.length=4∧(∀x∈(order.foldl (pickF fl) s).1,0≤x∧x≤6)∧(order.foldl (pickF fl) s).2.Sublist (o0++order)):=by
    intro order
    induction order with
    | nil=>intro s o0 h;rw [List.append_nil];exact h
    | cons i l ih=>
      intro s o0 h
      rw [List.foldl_cons]
      have h2:=ih (pickF fl s i) (o0++[i]) ?_
      · rw [List.append_assoc] at h2;exact h2
      · unfold pickF
        split
        · rename_i a ha
          split
          · rename_i hp
            refine ⟨by rw [List.length_set];exact h.1,fun x hx=> ?_,h.2.2.append (List.Sublist.refl _)⟩
            rcases List.mem_or_eq_of_mem_set hx with q | q
            · exact h.2.1 x q
            · have hk:s.1.getD a.2.1.toNat 0≤6:=by
                rw [List.getD_eq_getElem?_getD] at hp⊢
                cases hz:s.1[a.2.1.toNat]? with
                | none=>rw [hz] at hp;simp at hp
                | some z=>simpa using (h.2.1 z (List.mem_of_getElem? hz)).2
              omega
          · exact ⟨h.1,h.2.1,h.2.2.trans (List.sublist_append_left ..)⟩
        · exact ⟨h.1,h.2.1,h.2.2.trans (List.sublist_append_left ..)⟩
  intro order
  have h:=key order (need,[]) [] ⟨hn.1,hn.2,List.Sublist.refl _⟩
  rw [List.nil_append] at h
  exact ⟨h.1,h.2.1,h.2.2.length_le,h.2.2⟩
theorem bytesLess_trans:∀{a b c:List UInt8},Op.bytesLess a b=true→Op.bytesLess b c=true→Op.bytesLess a c=true
  | _,[],_,h,_=>by simp [Op.bytesLess] at h
  | _,_::_,[],_,h=>by simp [Op.bytesLess] at h
  | [],_::_,_::_,_,_=>rfl
  | x ::a,y::b,z::c,h,k=>by
    simp only [Op.bytesLess,Bool.or_eq_true,decide_eq_true_eq,Bool.and_eq_true,beq_iff_eq] at h k⊢
    rcases h with h | ⟨rfl,h⟩
    · rcases k with k | ⟨rfl,_⟩
      · exact .inl (UInt8.lt_trans h k)
      · exact .inl h
    · rcases k with k | ⟨rfl,k⟩
      · exact .inl k
      · exact .inr ⟨rfl,bytesLess_trans h k⟩
theorem strLt_trans {a b c:ByteArray} (h:strLt a b=true) (k:strLt b c=true):strLt a c=true:=bytesLess_trans h k
theorem strLt_ne {a b:ByteArray} (h:strLt a b=true):a≠b:=by
  intro e;subst e;rw [strLt_irrefl] at h;cases h
theorem chain_pairF {α:Type} {ok:α→Bool} {bf:α→α→Bool} (tr:∀a b c,bf a b=true→bf b c=true→bf a c=true):∀{l:List α} {p:Option α},chainFrom ok bf p l=true→(∀q,p=some q→∀x∈l,bf q x=true)∧l.Pairwise fun x y=>bf x y=true
  | [],_,_=>⟨fun _ _ x hx=>(by cases hx),List.Pairwise.nil⟩
  | y::l,none,h=>by
    simp only [chainFrom,Bool.and_eq_true] at h
    obtain ⟨h1,h2⟩:=chain_pairF tr h.2
    exact ⟨fun q hq=>(by cases hq),List.pairwise_cons.2 ⟨h1 y rfl,h2⟩⟩
  | y::l,some p,h=>by
    simp only [chainFrom,Bool.and_eq_true] at h
    obtain ⟨h1,h2⟩:=chain_pairF tr h.2
    refine ⟨fun q hq x hx=> ?_,List.pairwise_cons.2 ⟨h1 y rfl,h2⟩⟩
    cases hq
    rcases List.mem_cons.1 hx with rfl | q
    · exact h.1.2
    · exact tr _ _ _ h.1.2 (h1 y rfl x q)
theorem chain_pair {α:Type} {ok:α→Bool} {bf:α→α→Bool} (tr:∀a b c,bf a b=true→bf b c=true→bf a c=true) {l:List α} (h:chainAt ok bf l 0=true):l.Pairwise fun x y=>bf x y=true:=(chain_pairF tr h).2
theorem chain_ofF {α:Type} {ok:α→Bool} {bf:α→α→Bool}:∀{l:List α} {p:Option α},(∀x∈l,ok x=true)→(∀q,p=some q→∀x∈l,bf q x=true)→(l.Pairwise fun x y=>bf x y=true)→chainFrom ok bf p l=true
  | [],_,_,_,_=>rfl
  | y::l,none,h1,_,h3=>by
    obtain ⟨a,b⟩:=List.pairwise_cons.1 h3
    rw [chainFrom,h1 y (List.mem_cons_self ..),chain_ofF (fun x hx=>h1 x (List.mem_cons_of_mem _ hx)) (fun q hq x hx=>by cases hq;exact a x hx) b];rfl
  | y::l,some p,h1,h2,h3=>by
    obtain ⟨a,b⟩:=List.pairwise_cons.1 h3
    rw [chainFrom,h1 y (List.mem_cons_self ..),h2 p rfl y (List.mem_cons_self ..),chain_ofF (fun x hx=>h1 x (List.mem_cons_of_mem _ hx)) (fun q hq x hx=>by cases hq;exact a x hx) b];rfl
theorem chain_splitF {α:Type} {ok:α→Bool} {bf:α→α→Bool}:∀{l:List α} {p:Option α},chainFrom ok bf p l=(chainFrom (fun _=>true) bf p l && l.all ok)
  | [],_=>rfl
  | y::l,none=>by
    rw [chainFrom,chainFrom,chain_splitF,List.all_cons]
    cases ok y<;>cases chainFrom (fun _=>true) bf (some y) l<;>simp
  | y::l,some p=>by
    rw [chainFrom,chainFrom,chain_splitF,List.all_cons]
    cases ok y<;>cases bf p y<;>cases chainFrom (fun _=>true) bf (some y) l<;>simp
theorem chain_split {α:Type} {ok:α→Bool} {bf:α→α→Bool} {l:List α}:chainAt ok bf l 0=(chainAt (fun _=>true) bf l 0 && l.all ok):=chain_splitF
theorem first_at {α:Type} {p:α→Bool}:∀{l:List α} {k i:Nat} {a:α},l[k]? =some a→p a=true→(∀j b,j < k→l[j]? =some b→p b=false)→firstP p i l=((i+k:Nat):Int)
  | [],_,_,_,h,_,_=>by simp at h
  | x::l,0,i,a,h,hp,_=>by
    obtain rfl:x=a:=by simpa using h
    rw [firstP,if_pos hp];rfl
  | x::l,k+1,i,a,h,hp,hn=>by
    have h0:=hn 0 x (Nat.succ_pos k) rfl
    rw [firstP,if_neg (by rw [h0];decide),first_at (k:=k) (by simpa using h) hp (fun j b hj hb=>hn (j+1) b (by omega) (by simpa using hb))]
    congr 1;omega
theorem fleet_find {fl:List (ByteArray×Int×Int×Int×Int)} (h:fl.Pairwise fun x y=>apBf x y=true) {k:Nat} {a:(ByteArray×Int×Int×Int×Int)} (ha:fl[k]? =some a):firstP (fun x:(ByteArray×Int×Int×Int×Int)=>decide (x.1=a.1)) 0 fl=(k:Int):=by
  rw [first_at ha (by simp) ?_,Nat.zero_add]
  intro j b hj hb
  rw [List.pairwise_iff_getElem] at h
  obtain ⟨hk,ha'⟩:=List.getElem?_eq_some_iff.1 ha
  obtain ⟨hj',hb'⟩:=List.getElem?_eq_some_iff.1 hb
  have:=h j k hj' hk hj
  rw [ha',hb'] at this
  simpa using strLt_ne this
def findA (fl:List (ByteArray×Int×Int×Int×Int)) (s:ByteArray):Int:=firstP (fun x:(ByteArray×Int×Int×Int×Int)=>decide (x.1=s)) 0 fl
def attOne (fl:List (ByteArray×Int×Int×Int×Int)) (ts:List Int) (s:ByteArray):Int:=if findA fl s < 0 then -1 else keyOf fl ts (findA fl s)
def attB (fl:List (ByteArray×Int×Int×Int×Int)) (ts:List Int) (names:List ByteArray):Bool:=chainAt (fun s=>decide (0≤attOne fl ts s)) strLt names 0 && !decide ((names.length:Int)=0)
def attV (fl:List (ByteArray×Int×Int×Int×Int)) (ts:List Int) (names:List ByteArray):Int:=names.foldl (fun m s=>max m (attOne fl ts s)) 0
def mostOf (fl:List (ByteArray×Int×Int×Int×Int)) (ts:List Int) (order:List Int):Int:=order.foldl (fun m i=>max m (keyOf fl ts i)) 0
def idxTo (order:List Int) (m:Nat):List Int:=((List.range m).map fun k:Nat=>(k:Int)).filter fun i=>decide (i∈order)
def sentTo (fl:List (ByteArray×Int×Int×Int×Int)) (order:List Int):Nat→List ByteArray
  | 0=>[]
  | m+1=>sentTo fl order m++(match fl[m]? with | some a=>if (m:Int)∈order then [a.1] else [] | none=>[])
theorem sent_step {fl:List (ByteArray×Int×Int×Int×Int)} {order:List Int} {m:Nat} {a:(ByteArray×Int×Int×Int×Int)} (h:fl[m]? =some a):sentTo fl order (m+1)=if (m:Int)∈order then sentTo fl order m++[a.1] else sentTo fl order m:=by
  rw [sentTo,h];simp only;split<;>simp
def nameAt (fl:List (ByteArray×Int×Int×Int×Int)) (i:Int):ByteArray:=match fl[i.toNat]? with | some a=>a.1 | none=>⟨#[]⟩
theorem idx_succ (order:List Int) (m:Nat):idxTo order (m+1)=idxTo order m++(if (m:Int)∈order then [(m:Int)] else []):=by
  rw [idxTo,List.range_succ,List.map_append,List.filter_append,idxTo]
  congr 1
  by_cases h:(m:Int)∈order<;>simp [h]
theorem sent_idx (fl:List (ByteArray×Int×Int×Int×Int)) (order:List Int):∀m,m≤fl.length→sentTo fl order m=(idxTo order m).map (nameAt fl)
  | 0,_=>rfl
  | m+1,h=>by
    have ha:fl[m]? =some fl[m]:=List.getElem?_eq_getElem (by omega)
    rw [sent_step ha,idx_succ,List.map_append,sent_idx fl order m (by omega)]
    split
    · simp [nameAt,ha]
    · simp
theorem idx_perm {order:List Int} {m:Nat} (hn:order.Nodup) (hv:∀i∈order,∃k:Nat,i=(k:Int)∧k < m):(idxTo order m).Perm order:=by
  refine (List.perm_ext_iff_of_nodup ?_ hn).2 fun i=> ?_
  · refine List.Pairwise.filter _ ?_
    exact List.Pairwise.map _ (fun a b h e=>h (by omega)) List.nodup_range
  · rw [idxTo,List.mem_filter,decide_eq_true_eq]
    constructor
    · exact fun h=>h.2
    · intro h
      obtain ⟨k,hk,hm⟩:=hv i h
      exact ⟨List.mem_map.2 ⟨k,List.mem_range.2 hm,hk.symm⟩,h⟩
theorem att_name {fl:List (ByteArray×Int×Int×Int×Int)} {ts:List Int} (hf:fl.Pairwise fun x y=>apBf x y=true) {k:Nat} (hk:k < fl.length):attOne fl ts (nameAt fl (k:Int))=keyOf fl ts (k:Int):=by
  have ha:fl[k]? =some fl[k]:=List.getElem?_eq_getElem hk
  have hn:nameAt fl (k:Int)=fl[k].1:=by rw [nameAt,Int.toNat_natCast,ha]
  rw [attOne,findA,hn,fleet_find hf ha,if_neg (by omega)]
theorem sent_facts {fl:List (ByteArray×Int×Int×Int×Int)} {ts:List Int} {order:List Int} (hf:fl.Pairwise fun x y=>apBf x y=true) (hn:order.Nodup) (hv:∀i∈order,∃k:Nat,i=(k:Int)∧k < fl.length∧0≤keyOf fl ts i) :
    (sentTo fl order fl.length).length=order.length∧attV fl ts (sentTo fl order fl.length)=mostOf fl ts order∧attB fl ts (sentTo fl order fl.length)= !decide ((order.length:Int)=0):=by
  have hp:=idx_perm (m:=fl.length) hn fun i hi=>by obtain ⟨k,h1,h2,_⟩:=hv i hi;exact ⟨k,h1,h2⟩
  have hs:=sent_idx fl order fl.length (Nat.le_refl _)
  have hval:∀i∈idxTo order fl.length,attOne fl ts (nameAt fl i)=keyOf fl ts i:=by
    intro i hi
    obtain ⟨k,rfl,h2,_⟩:=hv i (hp.mem_iff.1 hi)
    exact att_name hf h2
  refine ⟨by rw [hs,List.length_map,hp.length_eq],?_,?_⟩
  · have e:∀(l:List Int) (a:Int),(∀i∈l,attOne fl ts (nameAt fl i)=keyOf fl ts i)→(l.map (nameAt fl)).foldl (fun m s=>max m (attOne fl ts s)) a=l.foldl (fun m i=>max m (keyOf fl ts i)) a:=by
      intro l
      induction l with
      | nil=>intro a _;rfl
      | cons x l ih=>intro a h;rw [List.map_cons,List.foldl_cons,List.foldl_cons,h x (List.mem_cons_self ..),ih _ fun i hi=>h i (List.mem_cons_of_mem _ hi)]
    rw [attV,hs,e _ _ hval,mostOf]
    exact hp.foldl_eq' (fun x _ y _ z=>by omega) 0
  · have hlen:(sentTo fl order fl.length).length=order.length:=by rw [hs,List.length_map,hp.length_eq]
    have hch:chainAt (fun s=>decide (0≤attOne fl ts s)) strLt (sentTo fl order fl.length) 0=true:=by
      refine chain_ofF (fun s hs'=> ?_) (fun q hq=>(by cases hq)) ?_
      · rw [hs] at hs'
        obtain ⟨i,hi,rfl⟩:=List.mem_map.1 hs'
        obtain ⟨k,_,_,h3⟩:=hv i (hp.mem_iff.1 hi)
        rw [hval i hi];simpa using h3
      · show (sentTo fl order fl.length).Pairwise _
        rw [hs,List.pairwise_map]
        have hinc:(idxTo order fl.length).Pairwise (· < ·):=by
          refine List.Pairwise.filter _ ?_
          exact List.Pairwise.map _ (fun a b h=>by omega) List.pairwise_lt_range
        refine hinc.imp_of_mem ?_
        intro a b ha hb hab
        obtain ⟨k,rfl,h2,_⟩:=hv a (hp.mem_iff.1 ha)
        obtain ⟨j,rfl,h4,_⟩:=hv b (hp.mem_iff.1 hb)
        rw [List.pairwise_iff_getElem] at hf
        have:=hf k j h2 h4 (by omega)
        rw [apBf] at this
        simpa [nameAt,List.getElem?_eq_getElem h2,List.getElem?_eq_getElem h4] using this
    rw [attB,hch,hlen];rfl
def dsB (n:Int) (ss:List (Int×Int×Int)) (fl:List (ByteArray×Int×Int×Int×Int)):Bool:=townB n ss && fleetB fl && fl.all fun a=>hasB n a.2.2.1
def askD (n:Int) (ss:List (Int×Int×Int)) (fl:List (ByteArray×Int×Int×Int×Int)) (node:Int):Bool:=dsB n ss fl && hasB n node
theorem town_facts {n:Int} {ss:List (Int×Int×Int)} (h:townB n ss=true):(1≤n∧n≤14)∧ss.length≤40∧∀s∈ss,strOK n s=true:=by
  simp only [townB,townH,Bool.and_eq_true,decide_eq_true_eq,Bool.not_eq_true',decide_eq_false_iff_not] at h
  exact ⟨h.1.1,by omega,chain_ok h.2⟩
theorem has_facts {n x:Int} (h1:1≤n∧n≤14):hasB n x=(decide (0≤x) && decide (x < n)):=by
  rw [hasB,wrap64 (by omega) (by omega)]
  congr 1
  exact decide_eq_decide.2 (by omega)
theorem fleet_ok {fl:List (ByteArray×Int×Int×Int×Int)} (h:fleetB fl=true):∀a∈fl,apOK a=true:=by
  simp only [fleetB,Bool.and_eq_true] at h
  exact chain_ok h.1
structure DsFacts (n:Int) (ss:List (Int×Int×Int)) (fl:List (ByteArray×Int×Int×Int×Int)):Prop where
  hn:1≤n∧n≤14
  hsl:ss.length≤40
  hss:∀s∈ss,strOK n s=true
  hfl:fl.length≤12
  hap:∀a∈fl,(0≤a.2.1∧a.2.1≤3)∧0≤a.2.2.1∧a.2.2.1 < n
  hinc:fl.Pairwise fun x y=>apBf x y=true
theorem ds_facts {n:Int} {ss:List (Int×Int×Int)} {fl:List (ByteArray×Int×Int×Int×Int)} (h:dsB n ss fl=true):DsFacts n ss fl:=by
  simp only [dsB,Bool.and_eq_true,List.all_eq_true] at h
  obtain ⟨⟨h1,h2⟩,h3⟩:=h
  obtain ⟨t1,t2,t3⟩:=town_facts h1
  refine ⟨t1,t2,t3,fleet_len h2,fun a ha=> ?_,?_⟩
  · have k1:=ap_kind (fleet_ok h2 a ha)
    have k2:=h3 a ha
    rw [has_facts t1] at k2
    simp only [Bool.and_eq_true,decide_eq_true_eq] at k2
    exact ⟨⟨k1.1,k1.2.1⟩,k2⟩
  · simp only [fleetB,Bool.and_eq_true] at h2
    exact chain_pair (bf:=apBf) (fun a b c h k=>strLt_trans (show strLt a.1 b.1=true from h) (show strLt b.1 c.1=true from k)) h2.1
theorem ask_facts {n:Int} {ss:List (Int×Int×Int)} {fl:List (ByteArray×Int×Int×Int×Int)} {node:Int} (h:askD n ss fl node=true):DsFacts n ss fl∧0≤node∧node < n:=by
  rw [askD,Bool.and_eq_true] at h
  have hd:=ds_facts h.1
  have h2:=h.2
  rw [has_facts hd.hn] at h2
  simp only [Bool.and_eq_true,decide_eq_true_eq] at h2
  exact ⟨hd,h2⟩
theorem all_step {α:Type} {p:α→Bool} {l:List α} {i:Nat} {x:α} (h:l[i]? =some x):(l.drop i).all p=(p x && (l.drop (i+1)).all p):=by
  rw [getElem_drop_cons h,List.all_cons]
theorem all_end {α:Type} {p:α→Bool} {l:List α} {i:Nat} (h:l.length≤i):(l.drop i).all p=true:=by
  rw [List.drop_of_length_le h];rfl
theorem ask_ds {n:Int} {ss:List (Int×Int×Int)} {fl:List (ByteArray×Int×Int×Int×Int)} {x:Int}:(dsB n ss fl && (townB n ss && hasB n x))=askD n ss fl x:=by
  rw [askD]
  by_cases h:townB n ss=true
  · rw [h];rfl
  · have h1:townB n ss=false:=by simpa using h
    have h2:dsB n ss fl=false:=by rw [dsB,h1];rfl
    rw [h2];rfl
set_option maxHeartbeats 1000000 in
theorem findAppliance1_con (x0:ByteArray) (x1:Int) (x2:Int) (x3:Int) (x4:Int) (s:ByteArray):Con Tryz.prog 143 [.agg [V.str x0,V.int .i64 x1,V.int .i64 x2,V.int .i64 x3,V.int .i64 x4],.pv [.str s] 0 0] [] (.bool (decide (x0=s))) []:=by
 refine v_con [.tmp 3] [] Tryz.func143 rfl rfl rfl (by simp [Tryz.ntmps143]) ?_
 intro Q0 n0 r0
 simp only [Tryz.ntmps143,envFrom,Nat.reduceAdd]
 have T:=Tys.mk (And.intro Ty.t3 (And.intro Ty.t9 Ty.t96))
 have F:=Fc.mk True.intro
 refine yR [1,2] ⟨?_⟩;refine yR [3] ⟨?_⟩;refine zr ⟨?_⟩
 exact ret_pure rfl (by first | rfl | simp) (.inl rfl)
set_option maxHeartbeats 1000000 in
theorem findAppliance_con (fl:List (ByteArray×Int×Int×Int×Int)) (s:ByteArray) (hl:fl.length≤1048576):Con Tryz.prog 68 [.sl (fl.map (fun t:ByteArray×Int×Int×Int×Int=>V.agg [V.str t.1,V.int .i64 t.2.1,V.int .i64 t.2.2.1,V.int .i64 t.2.2.2.1,V.int .i64 t.2.2.2.2])),.str s] [] (.int .i64 (findA fl s)) []:=by
 refine v_con [.tmp 4] [] Tryz.func68 rfl rfl rfl (by simp [Tryz.ntmps68]) ?_
 intro Q0 n0 r0
 simp only [Tryz.ntmps68,envFrom,Nat.reduceAdd]
 have T:=Tys.mk (And.intro Ty.t3 (And.intro Ty.t9 (And.intro Ty.t32 Ty.t96)))
 have F:=Fc.mk True.intro
 refine yR [0,3] ⟨?_⟩;refine yRc [4] (indexFuncAppliance_con fl _ _ (fun x=>decide (x.1=s)) hl (.pv _ .nil) (fun x0 x1 x2 x3 x4 _=>findAppliance1_con x0 x1 x2 x3 x4 s)) ⟨?_⟩;refine zr ⟨?_⟩
 exact ret_pure rfl rfl (.inl rfl)
set_option maxHeartbeats 1000000 in
theorem apFind_con (fl:List (ByteArray×Int×Int×Int×Int)) (s:ByteArray) (hl:fl.length≤1048576):Con Tryz.prog 111 [.sl (fl.map (fun t:ByteArray×Int×Int×Int×Int=>V.agg [V.str t.1,V.int .i64 t.2.1,V.int .i64 t.2.2.1,V.int .i64 t.2.2.2.1,V.int .i64 t.2.2.2.2])),.str s] [] (.int .i64 (findA fl s)) []:=by
 refine v_con [.tmp 4] [] Tryz.func111 rfl rfl rfl (by simp [Tryz.ntmps111]) ?_
 intro Q0 n0 r0
 simp only [Tryz.ntmps111,envFrom,Nat.reduceAdd]
 have T:=Tys.mk (And.intro Ty.t3 (And.intro Ty.t9 (And.intro Ty.t32 Ty.t96)))
 have F:=Fc.mk True.intro
 refine yR [0,1] ⟨?_⟩;refine v_seq ?_;intros;refine yR [1,7,8,9] ⟨?_⟩;refine v_block ?_;intro Q4 n4 x4 e4 r4;refine v_loop (fun i=>⟨[(1,.str s),(7,.sl (fl.map (fun t:ByteArray×Int×Int×Int×Int=>V.agg [V.str t.1,V.int .i64 t.2.1,V.int .i64 t.2.2.1,V.int .i64 t.2.2.2.1,V.int .i64 t.2.2.2.2]))),(8,.int .i64 fl.length),(9,.int .i64 (Nat.cast i))],[],false,20,0⟩) (fun i=>i≤fl.length∧firstP (fun x:(ByteArray×Int×Int×Int×Int)=>decide (x.1=s)) i (fl.drop i)=firstP (fun x:(ByteArray×Int×Int×Int×Int)=>decide (x.1=s)) 0 fl) (fun i=>fl.length - i) 0 ?_ ?_ ?_
 ·refine weak_of [1,7,8,9] ?_
  simp only [keep_mk,keepE_nil,keepE_cons,look_cons,look_nil,Nat.reduceEqDiff,reduceIte]
  rfl
 ·exact ⟨Nat.zero_le _,rfl⟩
 ·rintro i hok5 Q5 n5 e5 r5
  obtain ⟨hi1,hR⟩:=hok5
  refine yR [1,7,8,9,10] ⟨?_⟩;refine v_seq ?_;intros;refine v_condS _ rfl ?_ ?_
  ·intro hc0
   have hlt:i < fl.length:=by omega
   obtain ⟨⟨x0,x1,x2,x3,x4⟩,hx⟩:∃x:ByteArray×Int×Int×Int×Int,fl[i]? =some x:=⟨fl[i]'(by omega),List.getElem?_eq_getElem (by omega)⟩
   have hst:=first_step (p:=fun x:(ByteArray×Int×Int×Int×Int)=>decide (x.1=s)) hx
   refine zn [1,7,8,9] ⟨?_⟩;refine v_seq ?_;intros;refine v_block ?_;intros
   have F:=Fc.mk (fun f=>getD_map (f:=f) hx)
   refine yR [1,5,6,7,8,9] ⟨?_⟩;refine yR [1,5,7,8,9,17] ⟨?_⟩;refine v_condS _ rfl ?_ ?_
   ·intro hc1
    refine yR [4] ⟨?_⟩;refine zr ⟨?_⟩
    exact ret_pure rfl (by rw [findA,←hR,hst,if_pos (by simpa using hc1)]) (.inl rfl)
   ·intro hc1
    refine zn [1,7,8,9] ⟨?_⟩;refine yV ⟨?_⟩;refine n5 _ (i+1) ?_ ?_ ?_
    ·refine weak_bothS [1,7,8,9] [] ⟨?_⟩
     rfl
    ·exact ⟨by omega,by rw [←hR,hst,if_neg (by simpa using hc1)]⟩
    ·show _ < _;omega
  ·intro hc0
   refine zn [] ⟨?_⟩;refine yR [4] ⟨?_⟩;refine zr ⟨?_⟩
   exact ret_pure rfl (by rw [findA,←hR,first_end (by omega)]) (.inl rfl)
set_option maxHeartbeats 1000000 in
theorem dispatchFits1_con (x0:ByteArray) (x1:Int) (x2:Int) (x3:Int) (x4:Int) (n:Int) (ss:List (Int×Int×Int)):Con Tryz.prog 197 [.agg [V.str x0,V.int .i64 x1,V.int .i64 x2,V.int .i64 x3,V.int .i64 x4],.pv [.pv [.agg [.int .i64 n,.sl (ss.map (fun t:Int×Int×Int=>V.agg [V.int .i64 t.1,V.int .i64 t.2.1,V.int .i64 t.2.2]))]] 0 0] 0 0] [] (.bool (!hasB n x2)) []:=by
 refine v_con [.tmp 3] [] Tryz.func197 rfl rfl rfl (by simp [Tryz.ntmps197]) ?_
 intro Q0 n0 r0
 simp only [Tryz.ntmps197,envFrom,Nat.reduceAdd]
 have T:=Tys.mk (And.intro Ty.t3 (And.intro Ty.t4 (And.intro Ty.t9 (And.intro Ty.t39 (And.intro Ty.t41 (And.intro Ty.t96 (And.intro Ty.t108 Ty.t169)))))))
 have F:=Fc.mk True.intro
 refine yR [1,2] ⟨?_⟩;refine yRc [3] (tHas_con n ss x2) ⟨?_⟩;refine zr ⟨?_⟩
 exact ret_pure rfl rfl (.inl rfl)
set_option maxHeartbeats 1000000 in
theorem dispatchFits_con (n:Int) (ss:List (Int×Int×Int)) (fl:List (ByteArray×Int×Int×Int×Int)) (hs:ss.length≤1048576) (hl:fl.length≤1048576) (hls:∀t∈fl,t.1.size≤9223372036854775807):Con Tryz.prog 132 [.pv [.agg [.int .i64 n,.sl (ss.map (fun t:Int×Int×Int=>V.agg [V.int .i64 t.1,V.int .i64 t.2.1,V.int .i64 t.2.2]))]] 0 0,.sl (fl.map (fun t:ByteArray×Int×Int×Int×Int=>V.agg [V.str t.1,V.int .i64 t.2.1,V.int .i64 t.2.2.1,V.int .i64 t.2.2.2.1,V.int .i64 t.2.2.2.2]))] [] (.bool (dsB n ss fl)) []:=by
 refine v_con [.tmp 4] [] Tryz.func132 rfl rfl rfl (by simp [Tryz.ntmps132]) ?_
 intro Q0 n0 r0
 simp only [Tryz.ntmps132,envFrom,Nat.reduceAdd]
 have T:=Tys.mk (And.intro Ty.t3 (And.intro Ty.t4 (And.intro Ty.t9 (And.intro Ty.t32 (And.intro Ty.t39 (And.intro Ty.t41 (And.intro Ty.t96 (And.intro Ty.t108 Ty.t169))))))))
 have F:=Fc.mk True.intro
 rcases Bool.eq_false_or_eq_true (townB n ss) with hT | hT<;>rcases Bool.eq_false_or_eq_true (fleetB fl) with hF | hF
 ·skip
  skip
  have F:=Fc.mk (And.intro hT hF)
  refine yR [1,2] ⟨?_⟩;refine yRcgg [4] (isTown_con n ss hs) (isFleet_con fl hl hls) (containsFuncAppliance_con fl _ _ (fun x=> !hasB n x.2.2.1) hl (.pv _ .nil) (fun x0 x1 x2 x3 x4 _=>dispatchFits1_con x0 x1 x2 x3 x4 n ss)) ⟨?_⟩;refine zr ⟨?_⟩
  exact ret_pure rfl (by simp [dsB,hT,hF,List.all_eq_not_any_not]) (.inl rfl)
 ·skip
  skip
  have F:=Fc.mk (And.intro hT hF)
  refine yR [1,2] ⟨?_⟩;refine yRcgg [4] (isTown_con n ss hs) (isFleet_con fl hl hls) (containsFuncAppliance_con fl _ _ (fun x=> !hasB n x.2.2.1) hl (.pv _ .nil) (fun x0 x1 x2 x3 x4 _=>dispatchFits1_con x0 x1 x2 x3 x4 n ss)) ⟨?_⟩;refine zr ⟨?_⟩
  exact ret_pure rfl (by simp [dsB,hT,hF,List.all_eq_not_any_not]) (.inl rfl)
 ·skip
  skip
  have F:=Fc.mk (And.intro hT hF)
  refine yR [1,2] ⟨?_⟩;refine yRcgg [4] (isTown_con n ss hs) (isFleet_con fl hl hls) (containsFuncAppliance_con fl _ _ (fun x=> !hasB n x.2.2.1) hl (.pv _ .nil) (fun x0 x1 x2 x3 x4 _=>dispatchFits1_con x0 x1 x2 x3 x4 n ss)) ⟨?_⟩;refine zr ⟨?_⟩
  exact ret_pure rfl (by simp [dsB,hT,hF,List.all_eq_not_any_not]) (.inl rfl)
 ·skip
  skip
  have F:=Fc.mk (And.intro hT hF)
  refine yR [1,2] ⟨?_⟩;refine yRcgg [4] (isTown_con n ss hs) (isFleet_con fl hl hls) (containsFuncAppliance_con fl _ _ (fun x=> !hasB n x.2.2.1) hl (.pv _ .nil) (fun x0 x1 x2 x3 x4 _=>dispatchFits1_con x0 x1 x2 x3 x4 n ss)) ⟨?_⟩;refine zr ⟨?_⟩
  exact ret_pure rfl (by simp [dsB,hT,hF,List.all_eq_not_any_not]) (.inl rfl)
set_option maxHeartbeats 1000000 in
theorem dsGood_con (n:Int) (ss:List (Int×Int×Int)) (fl:List (ByteArray×Int×Int×Int×Int)) (hs:ss.length≤1048576) (hl:fl.length≤1048576) (hls:∀t∈fl,t.1.size≤9223372036854775807):Con Tryz.prog 119 [.agg [.int .i64 n,.sl (ss.map (fun t:Int×Int×Int=>V.agg [V.int .i64 t.1,V.int .i64 t.2.1,V.int .i64 t.2.2]))],.sl (fl.map (fun t:ByteArray×Int×Int×Int×Int=>V.agg [V.str t.1,V.int .i64 t.2.1,V.int .i64 t.2.2.1,V.int .i64 t.2.2.2.1,V.int .i64 t.2.2.2.2]))] [] (.bool (dsB n ss fl)) []:=by
 refine v_con [.tmp 4] [] Tryz.func119 rfl rfl rfl (by simp [Tryz.ntmps119]) ?_
 intro Q0 n0 r0
 simp only [Tryz.ntmps119,envFrom,Nat.reduceAdd]
 have T:=Tys.mk (And.intro Ty.t3 (And.intro Ty.t4 (And.intro Ty.t9 (And.intro Ty.t32 (And.intro Ty.t39 (And.intro Ty.t41 (And.intro Ty.t96 Ty.t169)))))))
 have F:=Fc.mk True.intro
 refine yR [1,2] ⟨?_⟩;refine v_seq ?_;intros;refine yRcg [1,2,14] (toGood_con n ss hs) (apFleet_con fl hl hls) ⟨?_⟩;refine v_condS _ rfl ?_ ?_
 ·intro hc0
  have hh:dsB n ss fl=false:=by rw [dsB];(try simp at hc0);first | (rcases hc0 with h | h<;>simp [h];done) | (simp_all;done)
  refine yR [4] ⟨?_⟩;refine zr ⟨?_⟩
  rw [hh]
  exact ret_pure rfl rfl (.inl rfl)
 ·intro hc0
  have hTF:townB n ss=true∧fleetB fl=true:=by first | exact hc0 | (simp at hc0;exact hc0)
  have htf:=town_facts hTF.1
  refine zn [1,2] ⟨?_⟩;refine v_seq ?_;intros;refine yR [2,15,16,17] ⟨?_⟩;refine v_block ?_;intros;refine v_loop (fun i=>⟨[(2,.ptr 0 0 0),(15,.sl (fl.map (fun t:ByteArray×Int×Int×Int×Int=>V.agg [V.str t.1,V.int .i64 t.2.1,V.int .i64 t.2.2.1,V.int .i64 t.2.2.2.1,V.int .i64 t.2.2.2.2]))),(16,.int .i64 fl.length),(17,.int .i64 (Nat.cast i))],[.box (.agg [.int .i64 n,.sl (ss.map (fun t:Int×Int×Int=>V.agg [V.int .i64 t.1,V.int .i64 t.2.1,V.int .i64 t.2.2]))]) .shal],false,27,0⟩) (fun i=>i≤fl.length∧(fl.drop i).all (fun a=>hasB n a.2.2.1)=fl.all fun a=>hasB n a.2.2.1) (fun i=>fl.length - i) 0 ?_ ?_ ?_
  ·refine weak_bothS [2,15,16,17] [0] ⟨?_⟩
   rfl
  ·exact ⟨Nat.zero_le _,rfl⟩
  ·rintro i hok9 Q9 n9 e9 r9
   obtain ⟨hi1,hR⟩:=hok9
   refine yR [2,15,16,17,18] ⟨?_⟩;refine v_seq ?_;intros;refine v_condS _ rfl ?_ ?_
   ·intro hc1
    have hlt:i < fl.length:=by omega
    obtain ⟨⟨x0,x1,x2,x3,x4⟩,hx⟩:∃x:ByteArray×Int×Int×Int×Int,fl[i]? =some x:=⟨fl[i]'(by omega),List.getElem?_eq_getElem (by omega)⟩
    have hst:=all_step (p:=fun a=>hasB n a.2.2.1) hx
    have hap:=ap_kind (fleet_ok hTF.2 _ (List.mem_of_getElem? hx))
    simp only [] at hap
    have hhb:=has_facts (x:=x2) htf.1
    refine zn [2,15,16,17] ⟨?_⟩;refine v_seq ?_;intros;refine v_block ?_;intros
    have F:=Fc.mk (fun f=>getD_map (f:=f) hx)
    refine yR [2,6,15,16,17] ⟨?_⟩;refine yR [2,15,16,17,25] ⟨?_⟩;refine v_condS _ rfl ?_ ?_
    ·intro hc2
     refine yR [4] ⟨?_⟩;refine zr ⟨?_⟩
     exact ret_pure rfl (by rw [dsB,hTF.1,hTF.2,←hR,hst,hhb,decide_eq_false (show ¬x2 < n by omega)];simp) (.inl rfl)
    ·intro hc2
     refine zn [2,15,16,17] ⟨?_⟩;refine yV ⟨?_⟩;refine n9 _ (i+1) ?_ ?_ ?_
     ·refine weak_bothS [2,15,16,17] [0] ⟨?_⟩
      rfl
     ·exact ⟨by omega,by rw [←hR,hst];simp only [];rw [hhb,decide_eq_true (show 0≤x2 by omega),decide_eq_true (show x2 < n by omega)];rfl⟩
     ·show _ < _;omega
   ·intro hc1
    refine zn [] ⟨?_⟩;refine yR [4] ⟨?_⟩;refine zr ⟨?_⟩
    exact ret_pure rfl (by rw [dsB,hTF.1,hTF.2,←hR,all_end (by omega)];rfl) (.inl rfl)
def ltOf (c:Int→Int→Int) (x y:Int):Bool:=decide (c x y < 0)
theorem isort_one (lt:Int→Int→Bool) (l:List Int):isort lt (l.take 1)++l.drop 1=l:=by
  cases l with
  | nil=>rfl
  | cons x l=>rfl
theorem data_mem {lt:Int→Int→Bool} {l:List Int} {i j:Nat} {x y:Int} (hx:l[i]? =some x) (h:(insAt (isort lt (l.take i)) x (l.drop (i+1)) j)[j]? =some y∨y∈insAt (isort lt (l.take i)) x (l.drop (i+1)) j):y∈l:=by
  have h2:y∈insAt (isort lt (l.take i)) x (l.drop (i+1)) j:=by
    rcases h with h | h
    · exact List.mem_of_getElem? h
    · exact h
  rcases insAt_mem h2 with q | q | q
  · rw [q];exact List.mem_of_getElem? hx
  · exact List.mem_of_mem_take (isort_mem.1 q)
  · exact List.mem_of_mem_drop q
theorem snocI {l:List Int} {x:Int}:l.map (V.int .i64)++[V.int .i64 x]=(l++[x]).map (V.int .i64):=by rw [List.map_append];rfl
theorem lt_key (fl:List (ByteArray×Int×Int×Int×Int)) (ts:List Int):ltOf (fun a b=>cmpI (keyOf fl ts a) (keyOf fl ts b))=byKey fl ts:=by
  funext a b
  rw [ltOf,byKey]
  refine decide_eq_decide.2 ?_
  unfold cmpI
  by_cases h:keyOf fl ts a < keyOf fl ts b
  · simp [h]
  · simp only [h,if_false,iff_false]
    split<;>omega
def allT (fl:List (ByteArray×Int×Int×Int×Int)) (ts:List Int):List Int:=fl.map fun a=>Tm.at_ ts a.2.2.1.toNat
theorem ready_is {fl:List (ByteArray×Int×Int×Int×Int)} {ts:List Int} {x:(ByteArray×Int×Int×Int×Int)} {w:Nat} {p:Int} (hw:x.2.2.1=(w:Int)) (hp:ts[w]? =some p):readyP fl ts x=(availB x && decide (0≤p)):=by
  rw [readyP,hw,Int.toNat_natCast,Tm.at_get hp]
theorem key_is {fl:List (ByteArray×Int×Int×Int×Int)} {ts:List Int} {k:Nat} {x:(ByteArray×Int×Int×Int×Int)} {w:Nat} {p:Int} (hx:fl[k]? =some x) (hw:x.2.2.1=(w:Int)) (hp:ts[w]? =some p):keyOf fl ts (k:Int)=p:=by
  rw [keyOf,Int.toNat_natCast,hx]
  simp only [hw,Int.toNat_natCast,Tm.at_get hp]
set_option maxHeartbeats 1000000 in
theorem l1Own_con (l:List Int) (hl:l.length≤1048576):Con Tryz.prog 110 [.sl (l.map (V.int .i64))] [] (.ref 0) [.arr (l.map (V.int .i64)) .flat]:=by
 have hns:(l.map (V.int .i64)).all V.noSl=true:=by rw [List.all_map,List.all_eq_true];intro a _;rfl
 refine v_con [.tmp 2] [] Tryz.func110 rfl rfl rfl (by simp [Tryz.ntmps110]) ?_
 intro Q0 n0 r0
 simp only [Tryz.ntmps110,envFrom,Nat.reduceAdd]
 have T:=Tys.mk (And.intro Ty.t3 Ty.t75)
 have F:=Fc.mk True.intro
 have F:=Fc.mk hns
 refine yR [0] ⟨?_⟩;refine yR [2] ⟨?_⟩;refine zr ⟨?_⟩
 exact ret_refK rfl rfl (by simp)
def idxFromS (x:ByteArray):Nat→List ByteArray→Int
  | _,[]=>-1
  | i,y::l=>if x=y then i else idxFromS x (i+1) l
theorem idxS_step {x y:ByteArray} {l:List ByteArray} {i:Nat} (h:l[i]? =some y):idxFromS x i (l.drop i)=if x=y then (i:Int) else idxFromS x (i+1) (l.drop (i+1)):=by
  rw [getElem_drop_cons h,idxFromS]
theorem idxS_end {x:ByteArray} {l:List ByteArray} {i k:Nat} (h:l.length≤i):idxFromS x k (l.drop i)=-1:=by
  rw [List.drop_of_length_le h,idxFromS]
def inS (x:ByteArray) (l:List ByteArray):Bool:=l.any fun y=>decide (x=y)
theorem idxS_mem (x:ByteArray):∀(l:List ByteArray) (i:Nat),decide (0≤idxFromS x i l)=inS x l
  | [],i=>by rw [idxFromS];rfl
  | y::l,i=>by
    rw [idxFromS,inS,List.any_cons]
    split
    · rename_i h;simp [h]
    · rename_i h;rw [idxS_mem x l (i+1)];simp [h,inS]
theorem inS_step {x y:ByteArray} {l:List ByteArray} {i:Nat} (h:l[i]? =some y):inS x (l.drop i)=(decide (x=y) || inS x (l.drop (i+1))):=by
  rw [getElem_drop_cons h,inS,List.any_cons];rfl
theorem inS_end {x:ByteArray} {l:List ByteArray} {i:Nat} (h:l.length≤i):inS x (l.drop i)=false:=by
  rw [List.drop_of_length_le h];rfl
set_option maxHeartbeats 1000000 in
theorem slIndexS_con (l:List ByteArray) (x:ByteArray) (hl:l.length≤1048576):Con Tryz.prog 234 [.sl (l.map V.str),.str x] [] (.int .i64 (idxFromS x 0 l)) []:=by
 refine v_con [.tmp 4] [] Tryz.func234 rfl rfl rfl (by simp [Tryz.ntmps234]) ?_
 intro Q0 n0 r0
 simp only [Tryz.ntmps234,envFrom,Nat.reduceAdd]
 have T:=Tys.mk (And.intro Ty.t3 (And.intro Ty.t9 Ty.t51))
 have F:=Fc.mk True.intro
 refine yR [0,1] ⟨?_⟩;refine v_seq ?_;intros;refine yR [0,1,7,8] ⟨?_⟩;refine v_block ?_;intros;refine v_loop (fun i=>⟨[(0,.sl (l.map V.str)),(1,.str x),(7,.int .i64 l.length),(8,.int .i64 (Nat.cast i))],[],false,19,0⟩) (fun i=>i≤l.length∧idxFromS x i (l.drop i)=idxFromS x 0 l) (fun i=>l.length - i) 0 ?_ ?_ ?_
 ·refine weak_of [0,1,7,8] ?_
  simp only [keep_mk,keepE_nil,keepE_cons,look_cons,look_nil,Nat.reduceEqDiff,reduceIte]
  rfl
 ·exact ⟨Nat.zero_le _,rfl⟩
 ·rintro i hok5 Q5 n5 e5 r5
  obtain ⟨hi1,hR⟩:=hok5
  refine yR [0,1,7,8,9] ⟨?_⟩;refine v_seq ?_;intros;refine v_condS _ rfl ?_ ?_
  ·intro hc0
   have hlt:i < l.length:=by omega
   obtain ⟨y,hy⟩:∃y,l[i]? =some y:=⟨l[i],List.getElem?_eq_getElem hlt⟩
   have hst:=idxS_step (x:=x) hy
   refine zn [0,1,7,8] ⟨?_⟩;refine v_seq ?_;intros;refine v_block ?_;intros
   have F:=Fc.mk (fun f=>getD_map (f:=f) hy)
   refine yR [0,1,5,7,8] ⟨?_⟩;refine yR [0,1,5,7,8,16] ⟨?_⟩;refine v_condS _ rfl ?_ ?_
   ·intro hc1
    refine yR [4] ⟨?_⟩;refine zr ⟨?_⟩
    exact ret_pure rfl (by rw [←hR,hst,if_pos hc1]) (.inl rfl)
   ·intro hc1
    refine zn [0,1,7,8] ⟨?_⟩;refine yV ⟨?_⟩;refine n5 _ (i+1) ?_ ?_ ?_
    ·refine weak_bothS [0,1,7,8] [] ⟨?_⟩
     rfl
    ·exact ⟨by omega,by rw [←hR,hst,if_neg hc1]⟩
    ·show _ < _;omega
  ·intro hc0
   refine zn [] ⟨?_⟩;refine yR [4] ⟨?_⟩;refine zr ⟨?_⟩
   exact ret_pure rfl (by rw [←hR,idxS_end (by omega)]) (.inl rfl)
set_option maxHeartbeats 1000000 in
theorem slContainsS_con (l:List ByteArray) (x:ByteArray) (hl:l.length≤1048576):Con Tryz.prog 200 [.sl (l.map V.str),.str x] [] (.bool (inS x l)) []:=by
 refine v_con [.tmp 4] [] Tryz.func200 rfl rfl rfl (by simp [Tryz.ntmps200]) ?_
 intro Q0 n0 r0
 simp only [Tryz.ntmps200,envFrom,Nat.reduceAdd]
 have T:=Tys.mk (And.intro Ty.t3 (And.intro Ty.t9 Ty.t51))
 have F:=Fc.mk True.intro
 refine yR [0,1] ⟨?_⟩;refine yRc [4] (slIndexS_con l x hl) ⟨?_⟩;refine zr ⟨?_⟩
 exact ret_pure rfl (by congr 1;exact idxS_mem x l 0) (.inl rfl)
set_option maxHeartbeats 1000000 in
theorem dsHas_con (l:List ByteArray) (x:ByteArray) (hl:l.length≤1048576):Con Tryz.prog 58 [.sl (l.map V.str),.str x] [] (.bool (inS x l)) []:=by
 refine v_con [.tmp 4] [] Tryz.func58 rfl rfl rfl (by simp [Tryz.ntmps58]) ?_
 intro Q0 n0 r0
 simp only [Tryz.ntmps58,envFrom,Nat.reduceAdd]
 have T:=Tys.mk (And.intro Ty.t3 (And.intro Ty.t9 Ty.t51))
 have F:=Fc.mk True.intro
 refine yR [0,1] ⟨?_⟩;refine v_seq ?_;intros;refine yR [1,7,8,9] ⟨?_⟩;refine v_block ?_;intros;refine v_loop (fun i=>⟨[(1,.str x),(7,.sl (l.map V.str)),(8,.int .i64 l.length),(9,.int .i64 (Nat.cast i))],[],false,17,0⟩) (fun i=>i≤l.length∧inS x (l.drop i)=inS x l) (fun i=>l.length - i) 0 ?_ ?_ ?_
 ·refine weak_of [1,7,8,9] ?_
  simp only [keep_mk,keepE_nil,keepE_cons,look_cons,look_nil,Nat.reduceEqDiff,reduceIte]
  rfl
 ·exact ⟨Nat.zero_le _,rfl⟩
 ·rintro i hok5 Q5 n5 e5 r5
  obtain ⟨hi1,hR⟩:=hok5
  refine yR [1,7,8,9,10] ⟨?_⟩;refine v_seq ?_;intros;refine v_condS _ rfl ?_ ?_
  ·intro hc0
   have hlt:i < l.length:=by omega
   obtain ⟨y,hy⟩:∃y,l[i]? =some y:=⟨l[i],List.getElem?_eq_getElem hlt⟩
   have hst:=inS_step (x:=x) hy
   refine zn [1,7,8,9] ⟨?_⟩;refine v_seq ?_;intros;refine v_block ?_;intros
   have F:=Fc.mk (fun f=>getD_map (f:=f) hy)
   refine yR [1,6,7,8,9] ⟨?_⟩;refine yR [1,7,8,9,15] ⟨?_⟩;refine v_condS _ rfl ?_ ?_
   ·intro hc1
    refine yR [4] ⟨?_⟩;refine zr ⟨?_⟩
    exact ret_pure rfl (by rw [←hR,hst,decide_eq_true hc1.symm];rfl) (.inl rfl)
   ·intro hc1
    refine zn [1,7,8,9] ⟨?_⟩;refine yV ⟨?_⟩;refine n5 _ (i+1) ?_ ?_ ?_
    ·refine weak_bothS [1,7,8,9] [] ⟨?_⟩
     rfl
    ·exact ⟨by omega,by rw [←hR,hst,decide_eq_false (fun q=>hc1 q.symm)];rfl⟩
    ·show _ < _;omega
  ·intro hc0
   refine zn [] ⟨?_⟩;refine yR [4] ⟨?_⟩;refine zr ⟨?_⟩
   exact ret_pure rfl (by rw [←hR,inS_end (by omega)]) (.inl rfl)
set_option maxHeartbeats 1000000 in
theorem dsNames_con (l:List ByteArray) (hl:l.length≤1048576):Con Tryz.prog 229 [.sl (l.map V.str)] [] (.bool (chainAt (fun _:ByteArray=>true) strLt l 0)) []:=by
 refine v_con [.tmp 2] [] Tryz.func229 rfl rfl rfl (by simp [Tryz.ntmps229]) ?_
 intro Q0 n0 r0
 simp only [Tryz.ntmps229,envFrom,Nat.reduceAdd]
 have T:=Tys.mk (And.intro Ty.t3 (And.intro Ty.t9 Ty.t51))
 have F:=Fc.mk True.intro
 refine yR [0] ⟨?_⟩;refine v_seq ?_;intros;refine yR [0,5,6,7] ⟨?_⟩;refine v_block ?_;intros;refine v_loop (fun i=>⟨[(0,.sl (l.map V.str)),(5,.sl (l.map V.str)),(6,.int .i64 l.length),(7,.int .i64 (Nat.cast i))],[],false,24,0⟩) (fun i=>i≤l.length∧chainAt (fun _:ByteArray=>true) strLt l i=chainAt (fun _:ByteArray=>true) strLt l 0) (fun i=>l.length - i) 0 ?_ ?_ ?_
 ·refine weak_of [0,5,6,7] ?_
  simp only [keep_mk,keepE_nil,keepE_cons,look_cons,look_nil,Nat.reduceEqDiff,reduceIte]
  rfl
 ·exact ⟨Nat.zero_le _,rfl⟩
 ·rintro i hok5 Q5 n5 e5 r5
  obtain ⟨hi1,hR⟩:=hok5
  refine yR [0,5,6,7,8] ⟨?_⟩;refine v_seq ?_;intros;refine v_condS _ rfl ?_ ?_
  ·intro hc0
   have hlt:i < l.length:=by omega
   obtain ⟨x,hx⟩:∃x,l[i]? =some x:=⟨l[i],List.getElem?_eq_getElem hlt⟩
   rcases Nat.eq_zero_or_pos i with h0 | h0
   ·skip
    have hi0:¬((0:Int) < (i:Int)):=by omega
    have hst:chainAt (fun _:ByteArray=>true) strLt l i=chainAt (fun _:ByteArray=>true) strLt l (i+1):=by have q:=chain_zero (ok:=(fun _:ByteArray=>true)) (bf:=strLt) (l:=l) (x:=x) (by subst h0;exact hx);subst h0;simpa using q
    refine zn [0,5,6,7] ⟨?_⟩;refine v_seq ?_;intros;refine v_block ?_;intros
    have F:=Fc.mk (And.intro (fun f=>getD_map (f:=f) hx) (And.intro hi0 (And.intro @decide_false @Bool.and_false)))
    refine yR [0,3,4,5,6,7] ⟨?_⟩;refine yR [0,5,6,7,22] ⟨?_⟩;refine v_cond _ rfl ?_ ?_
    ·intro hc1
     exfalso;simp at hc1
    ·intro hc1
     try simp only [zC,reduceCtorEq] at hc1
     refine zn [0,5,6,7] ⟨?_⟩;refine yV ⟨?_⟩;refine n5 _ (i+1) ?_ ?_ ?_
     ·refine weak_bothS [0,5,6,7] [] ⟨?_⟩
      rfl
     ·exact ⟨by omega,by first | (rw [←hR,hst];done) | (rw [←hR,hst];(try simp at hc1);first | (simp [hc1];done) | (simp;done) | rfl)⟩
     ·show _ < _;omega
   ·skip
    obtain ⟨y,hy⟩:∃y,l[i - 1]? =some y:=⟨_,List.getElem?_eq_getElem (by omega)⟩
    have hi0:(0:Int) < i:=by omega
    have hk:((i:Int) - 1).toNat=i - 1:=by omega
    have hst:=chain_succ (ok:=(fun _:ByteArray=>true)) (bf:=strLt) h0 hy hx
    refine zn [0,5,6,7] ⟨?_⟩;refine v_seq ?_;intros;refine v_block ?_;intros
    have F:=Fc.mk (And.intro (fun f=>getD_map (f:=f) hx) (And.intro hi0 (And.intro hk (And.intro (fun f=>getD_map (f:=f) hy) (And.intro @decide_true @Bool.and_true)))))
    refine yR [0,3,4,5,6,7] ⟨?_⟩;refine yR [0,5,6,7,22] ⟨?_⟩;refine v_condS _ rfl ?_ ?_
    ·intro hc1
     refine yR [2] ⟨?_⟩;refine zr ⟨?_⟩
     exact ret_pure rfl (by rw [←hR,hst];(try simp at hc1);simp [hc1]) (.inl rfl)
    ·intro hc1
     refine zn [0,5,6,7] ⟨?_⟩;refine yV ⟨?_⟩;refine n5 _ (i+1) ?_ ?_ ?_
     ·refine weak_bothS [0,5,6,7] [] ⟨?_⟩
      rfl
     ·exact ⟨by omega,by first | (rw [←hR,hst];done) | (rw [←hR,hst];(try simp at hc1);first | (simp [hc1];done) | (simp;done) | rfl)⟩
     ·show _ < _;omega
  ·intro hc0
   refine zn [] ⟨?_⟩;refine yR [2] ⟨?_⟩;refine zr ⟨?_⟩
   exact ret_pure rfl (by rw [←hR,chain_end (by omega)]) (.inl rfl)
theorem findA_cases (fl:List (ByteArray×Int×Int×Int×Int)) (s:ByteArray):findA fl s=-1∨∃(k:Nat) (x:(ByteArray×Int×Int×Int×Int)),findA fl s=(k:Int)∧fl[k]? =some x∧x.1=s:=by
  by_cases h:findA fl s=-1
  · exact .inl h
  · obtain ⟨k,h1,h2,_,x,h4,h5⟩:=first_some h
    exact .inr ⟨k,x,by rw [findA,h2,Nat.zero_add],h4,by simpa using h5⟩
def attR (n:Int) (ss:List (Int×Int×Int)) (fl:List (ByteArray×Int×Int×Int×Int)) (node:Int) (names:List ByteArray):Bool:=askD n ss fl node && attB fl (tmL n ss node) names
def attW (n:Int) (ss:List (Int×Int×Int)) (fl:List (ByteArray×Int×Int×Int×Int)) (node:Int) (names:List ByteArray):Int:=if attR n ss fl node names=true then attV fl (tmL n ss node) names else 0
theorem attOne_none {fl:List (ByteArray×Int×Int×Int×Int)} {ts:List Int} {s:ByteArray} (h:findA fl s=-1):attOne fl ts s=-1:=by rw [attOne,if_pos (by omega)]
theorem attOne_some {fl:List (ByteArray×Int×Int×Int×Int)} {ts:List Int} {s:ByteArray} {k:Nat} {x:(ByteArray×Int×Int×Int×Int)} {w:Nat} {p:Int} (h:findA fl s=(k:Int)) (hx:fl[k]? =some x) (hw:x.2.2.1=(w:Int)) (hp:ts[w]? =some p):attOne fl ts s=p:=by
  rw [attOne,if_neg (by omega),h,key_is hx hw hp]
theorem attV_step {fl:List (ByteArray×Int×Int×Int×Int)} {ts:List Int} {names:List ByteArray} {i:Nat} {s:ByteArray} (h:names[i]? =some s):attV fl ts (names.take (i+1))=max (attV fl ts (names.take i)) (attOne fl ts s):=by
  rw [attV,List.take_add_one,h,Option.toList,List.foldl_append];rfl
theorem attB_split {fl:List (ByteArray×Int×Int×Int×Int)} {ts:List Int} {names:List ByteArray}:attB fl ts names=((chainAt (fun _:ByteArray=>true) strLt names 0 && names.all fun s=>decide (0≤attOne fl ts s)) && !decide ((names.length:Int)=0)):=by
  rw [attB,chain_split]
def need4 (l:List Int):Bool:=decide ((l.length:Int)=4) && l.all (fun x:Int=>inR x 0 6)
theorem need4_facts {l:List Int} (h:need4 l=true):l.length=4∧∀x∈l,0≤x∧x≤6:=by
  simp only [need4,Bool.and_eq_true,decide_eq_true_eq,List.all_eq_true,inR] at h
  exact ⟨by omega,h.2⟩
set_option maxHeartbeats 1000000 in
theorem isNeed_con (l:List Int) (hl:l.length≤1048576):Con Tryz.prog 136 [.sl (l.map (V.int .i64))] [] (.bool (need4 l)) []:=by
 refine v_con [.tmp 2] [] Tryz.func136 rfl rfl rfl (by simp [Tryz.ntmps136]) ?_
 intro Q0 n0 r0
 simp only [Tryz.ntmps136,envFrom,Nat.reduceAdd]
 have T:=Tys.mk (And.intro Ty.t3 (And.intro Ty.t4 Ty.t75))
 have F:=Fc.mk True.intro
 refine yR [0] ⟨?_⟩;refine v_seq ?_;intros;refine yR [0,5,6,7] ⟨?_⟩;refine v_block ?_;intros;refine v_loop (fun i=>⟨[(0,.sl (l.map (V.int .i64))),(5,.sl (l.map (V.int .i64))),(6,.int .i64 l.length),(7,.int .i64 (Nat.cast i))],[],false,18,0⟩) (fun i=>i≤l.length∧(l.drop i).all (fun x:Int=>inR x 0 6)=l.all (fun x:Int=>inR x 0 6)) (fun i=>l.length - i) 0 ?_ ?_ ?_
 ·refine weak_of [0,5,6,7] ?_
  simp only [keep_mk,keepE_nil,keepE_cons,look_cons,look_nil,Nat.reduceEqDiff,reduceIte]
  rfl
 ·exact ⟨Nat.zero_le _,rfl⟩
 ·rintro i hok5 Q5 n5 e5 r5
  obtain ⟨hi1,hR⟩:=hok5
  refine yR [0,5,6,7,8] ⟨?_⟩;refine v_seq ?_;intros;refine v_condS _ rfl ?_ ?_
  ·intro hc0
   have hlt:i < l.length:=by omega
   obtain ⟨x,hx⟩:∃x,l[i]? =some x:=⟨_,List.getElem?_eq_getElem hlt⟩
   have hst:=all_step (p:=(fun x:Int=>inR x 0 6)) hx
   refine zn [0,5,6,7] ⟨?_⟩;refine v_seq ?_;intros;refine v_block ?_;intros
   have F:=Fc.mk (fun f=>getD_map (f:=f) hx)
   refine yR [0,4,5,6,7] ⟨?_⟩;refine yRc [0,5,6,7,13] (inside_con _ _ _) ⟨?_⟩;refine v_condS _ rfl ?_ ?_
   ·intro hc1
    refine yR [2] ⟨?_⟩;refine zr ⟨?_⟩
    exact ret_pure rfl (by rw [need4,←hR,hst];(try simp at hc1);simp [inR];intros;omega) (.inl rfl)
   ·intro hc1
    refine zn [0,5,6,7] ⟨?_⟩;refine yV ⟨?_⟩;refine n5 _ (i+1) ?_ ?_ ?_
    ·refine weak_bothS [0,5,6,7] [] ⟨?_⟩
     rfl
    ·exact ⟨by omega,by rw [←hR,hst];(try simp at hc1);simp [inR];intros;omega⟩
    ·show _ < _;omega
  ·intro hc0
   refine zn [0] ⟨?_⟩;refine yR [2] ⟨?_⟩;refine zr ⟨?_⟩
   exact ret_pure rfl (by rw [need4,←hR,all_end (by omega)];simp) (.inl rfl)
set_option maxHeartbeats 1000000 in
theorem tbNeed_con (l:List Int) (hl:l.length≤1048576):Con Tryz.prog 191 [.sl (l.map (V.int .i64))] [] (.bool (need4 l)) []:=by
 refine v_con [.tmp 2] [] Tryz.func191 rfl rfl rfl (by simp [Tryz.ntmps191]) ?_
 intro Q0 n0 r0
 simp only [Tryz.ntmps191,envFrom,Nat.reduceAdd]
 have T:=Tys.mk (And.intro Ty.t3 (And.intro Ty.t4 Ty.t75))
 have F:=Fc.mk True.intro
 refine yR [0] ⟨?_⟩;refine yRg [2] (l1All_con l 0 6 hl) ⟨?_⟩;refine zr ⟨?_⟩
 exact ret_pure rfl (by simp [need4,inR]) (.inl rfl)
set_option maxHeartbeats 1000000 in
theorem cloneInt_con (l:List Int) (hl:l.length≤1048576):Con Tryz.prog 141 [.sl (l.map (V.int .i64))] [] (.ref 0) [.arr (l.map (V.int .i64)) .flat]:=by
 have hns:(l.map (V.int .i64)).all V.noSl=true:=by rw [List.all_map,List.all_eq_true];intro a _;rfl
 refine v_con [.tmp 2] [] Tryz.func141 rfl rfl rfl (by simp [Tryz.ntmps141]) ?_
 intro Q0 n0 r0
 simp only [Tryz.ntmps141,envFrom,Nat.reduceAdd]
 have T:=Tys.mk (And.intro Ty.t3 Ty.t75)
 have F:=Fc.mk True.intro
 have F:=Fc.mk hns
 refine yR [0] ⟨?_⟩;refine v_seq ?_;intros;refine v_seqR [0,4] ?_;intro K3 k3;refine zMove ⟨?_⟩;refine zNil ⟨?_⟩
 intro nb4 hnb4
 refine k3 _ ?_;refine zk ⟨?_⟩;refine v_condS _ rfl ?_ ?_
 ·intro hc0
  have hnil:l=[]:=by cases l with | nil=>rfl | cons a b=>have:=hnb4 (by simp);rw [hc0] at this;cases this
  refine yR [2] ⟨?_⟩;refine zr ⟨?_⟩
  rw [hnil];exact ret_refK rfl rfl rfl
 ·intro hc0
  refine zn [0] ⟨?_⟩;refine yR [2] ⟨?_⟩;refine zr ⟨?_⟩
  exact ret_refK rfl rfl (by simp)
def szSL (n:Int) (l:List ByteArray):Int:=if n - (l.length:Int) < 0 then -1 else szLst szStr1 (n - (l.length:Int)) l
theorem szLst_neg {α:Type} {f:Int→α→Int}:∀{l:List α} {n:Int},0≤n→szLst f n l < 0→szLst f n l=-1
  | [],n,h0,h=>by rw [szLst] at h;omega
  | x ::l,n,h0,h=>by
    rw [szLst] at h⊢
    by_cases q:f n x < 0
    · rw [if_pos q]
    · rw [if_neg q] at h⊢
      exact szLst_neg (by omega) h
theorem szSL_neg {n:Int} {l:List ByteArray} (h:szSL n l < 0):szSL n l=-1:=by
  unfold szSL at h⊢
  split at h
  · rename_i q;rw [if_pos q]
  · rename_i q;rw [if_neg q];exact szLst_neg (by omega) h
theorem szSL_le {n:Int} {l:List ByteArray} (hn:0≤n):szSL n l≤n:=by
  unfold szSL
  split
  · omega
  · by_cases h:0≤szLst szStr1 (n - (l.length:Int)) l
    · have:=szLst_down szStr1_le (by omega) h;omega
    · omega
theorem szSL_len {n:Int} {l:List ByteArray} (h:0≤szSL n l):(l.length:Int)≤n:=by
  unfold szSL at h
  split at h<;>omega
theorem szS_neg {n:Int} {l:List Int} (h:szS n l < 0):szS n l=-1:=by
  unfold szS at h⊢
  split at h
  · rename_i q;rw [if_pos q]
  · omega
theorem szS_le {n:Int} {l:List Int} (hn:0≤n):szS n l≤n:=by
  unfold szS;split<;>omega
theorem szS_len {n:Int} {l:List Int} (h:0≤szS n l):(l.length:Int)≤n:=by
  unfold szS at h
  split at h<;>omega
end Go.Proofs.YtaefoaghpehbpaaGreat
