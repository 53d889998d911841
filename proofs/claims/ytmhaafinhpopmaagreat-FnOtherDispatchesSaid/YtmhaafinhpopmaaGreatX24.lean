/- What functions compute. No condition. -/
import Derived.Test.YtmhaafinhpopmaaGreatX9
set_option linter.unusedSimpArgs false
set_option linter.unusedVariables false
set_option linter.defProp false
namespace Go.Proofs.YtmhaafinhpopmaaGreat
open Go Go.Vm
set_option maxHeartbeats 8000000
def zeroL (need:List Int):Bool:=need.all fun x=>decide (x=0)
def decK (need:List Int) (k:Int):List Int:=need.set k.toNat (need.getD k.toNat 0 - 1)
def full:List Int→List (ByteArray×Int)→List (List ByteArray)
  | need,[]=>if zeroL need then [[]] else []
  | need,(x,k)::l=>if zeroL need then [[]] else (if 0 < need.getD k.toNat 0 then (full (decK need k) l).map (x::·) else [])++full need l
def loopI:List Int→List (ByteArray×Int)→List ByteArray→List (List ByteArray)→List (List ByteArray)
  | _,[],_,out=>out
  | need,(x,k)::l,names,out=>if 20 < out.length then out else
    if 0 < need.getD k.toNat 0 then loopI need l names (if zeroL (decK need k) then out++[names++[x]] else loopI (decK need k) l (names++[x]) out) else loopI need l names out
def extI (need:List Int) (l:List (ByteArray×Int)) (names:List ByteArray) (out:List (List ByteArray)):List (List ByteArray):=if zeroL need then out++[names] else loopI need l names out
def loopS:List Int→List (ByteArray×Int×Bool)→List (List ByteArray)→List (List ByteArray)
  | _,[],out=>out
  | need,(x,k,u)::l,out=>if 20 < out.length then out else
    if u=true∧¬need.getD k.toNat 0=0 then loopS need l (out++(if zeroL (decK need k) then [[]] else loopS (decK need k) l []).map (x::·)) else loopS need l out
def dbT (need:List Int) (l:List (ByteArray×Int×Bool)):List (List ByteArray):=if zeroL need then [[]] else loopS need l []
def TR (out all:List (List ByteArray)):Prop:=out=all∨(20 < out.length∧20 < all.length)
theorem full_zero {need:List Int} (h:zeroL need=true):∀l,full need l=[[]]
  | []=>by rw [full,if_pos h]
  | (x,k)::l=>by rw [full,if_pos h]
theorem full_cons {need:List Int} (h:zeroL need=false) (x:ByteArray) (k:Int) (l):full need ((x,k)::l)=(if 0 < need.getD k.toNat 0 then (full (decK need k) l).map (x::·) else [])++full need l:=by rw [full,if_neg (by simp [h])]
theorem loopI_len:∀(l:List (ByteArray×Int)) (need:List Int) (names:List ByteArray) (out:List (List ByteArray)),out.length≤(loopI need l names out).length
  | [],_,_,_=>qlu _
  | (x, k)::l,need,names,out=>by
    rw [loopI];split
    · exact qlu _
    · split
      · refine ql4 ?_ (loopI_len l need names _)
        split
        · simp
        · exact loopI_len l _ _ out
      · exact loopI_len l need names out
theorem loopI_tr:∀(l:List (ByteArray×Int)) (need:List Int) (names:List ByteArray) (out:List (List ByteArray)),zeroL need=false→
    TR (loopI need l names out) (out++(full need l).map (names++·))
  | [],need,names,out,h=>by left;simp [loopI,full,h]
  | (x, k) :: l,need,names,out,h=>by
    rw [loopI,full_cons h];split
    · rename_i h1
      exact .inr ⟨h1,by rw [qlm];omega⟩
    · rename_i h1
      split
      · rename_i h2
        simp only [List.map_append,List.map_map];have key:TR (if zeroL (decK need k)=true then out++[names++[x]] else loopI (decK need k) l (names++[x]) out) (out++(full (decK need k) l).map (fun y=>names++x::y)):=by
          cases hz:zeroL (decK need k) with
          | true=>rw [if_pos rfl,full_zero hz];exact .inl rfl
          | false=>
            rw [if_neg (by simp)];have:=loopI_tr l (decK need k) (names++[x]) out hz;simpa only [List.append_assoc,List.singleton_append] using this
        generalize (if zeroL (decK need k)=true then out++[names++[x]] else loopI (decK need k) l (names++[x]) out)=o1 at key⊢;have h3:=loopI_tr l need names o1 h;have h4:=loopI_len l need names o1;rw [←qlw];have hf:((fun x=>names++x)∘fun x_1=>x::x_1)=(fun y=>names++x::y):=rfl;rw [hf];rcases key with e | ⟨g1,g2⟩
        · rw [←e];exact h3
        · exact .inr ⟨by omega,by rw [qlm];omega⟩
      · rename_i h2
        simpa using loopI_tr l need names out h
theorem extI_tr (l:List (ByteArray×Int)) (need:List Int) (names:List ByteArray) (out:List (List ByteArray)):TR (extI need l names out) (out++(full need l).map (names++·)):=by
  rw [extI];cases hz:zeroL need with
  | true=>rw [if_pos rfl,full_zero hz];left;simp
  | false=>rw [if_neg (by simp)];exact loopI_tr l need names out hz
theorem loopS_len:∀(l:List (ByteArray×Int×Bool)) (need:List Int) (out:List (List ByteArray)),out.length≤(loopS need l out).length
  | [],_,_=>qlu _
  | (x,k,u)::l,need,out=>by
    rw [loopS];split
    · exact qlu _
    · split
      · exact ql4 (by simp) (loopS_len l need _)
      · exact loopS_len l need out
def usable (l:List (ByteArray×Int×Bool)):List (ByteArray×Int):=l.filterMap fun t=>if t.2.2 then some (t.1,t.2.1) else none
theorem loopS_tr:∀(l:List (ByteArray×Int×Bool)) (need:List Int) (out:List (List ByteArray)),zeroL need=false→(∀t∈l,True)→(∀x∈need,0≤x)→
    TR (loopS need l out) (out++full need (usable l))
  | [],need,out,h,_,_=>by left;simp [loopS,usable,full,h]
  | (x, k, u) ::l,need,out,h,hl,hn=>by
    have hg:0≤need.getD k.toNat 0:=by
      rw [qld];cases e:need[k.toNat]? with
      | none=>simp
      | some v=>simpa using hn v (qlb e)
    have hd:0 < need.getD k.toNat 0→∀x∈decK need k,0≤x:=by
      intro hp y hy;rcases List.mem_or_eq_of_mem_set hy with q | q
      · exact hn y q
      · omega
    rw [loopS];split
    · rename_i h1
      exact .inr ⟨h1,by rw [qlm];omega⟩
    · rename_i h1
      cases u with
      | false=>
        rw [if_neg (by simp)];have:usable ((x,k,false)::l)=usable l:=by rw [usable,List.filterMap_cons];rfl
        rw [this];exact loopS_tr l need out h (fun _ _=>trivial) hn
      | true =>
        have hu:usable ((x,k,true)::l)=(x,k)::usable l:=by rw [usable,List.filterMap_cons];rfl
        rw [hu,full_cons h]
        by_cases h2:need.getD k.toNat 0=0
        · rw [if_neg (fun q=>q.2 h2),if_neg (by omega),List.nil_append]
          exact loopS_tr l need out h (fun _ _=>trivial) hn
        · have hp:0 < need.getD k.toNat 0:=by omega
          rw [if_pos ⟨rfl,h2⟩,if_pos hp];have key:TR (if zeroL (decK need k)=true then [[]] else loopS (decK need k) l []) (full (decK need k) (usable l)):=by
            cases hz:zeroL (decK need k) with
            | true=>rw [if_pos rfl,full_zero hz];exact .inl rfl
            | false=>
              rw [if_neg (by simp)];simpa using loopS_tr l (decK need k) [] hz (fun _ _=>trivial) (hd hp)
          generalize (if zeroL (decK need k)=true then [[]] else loopS (decK need k) l [])=o1 at key⊢;have h3:=loopS_tr l need (out++o1.map (x::·)) h (fun _ _=>trivial) hn;have h4:=loopS_len l need (out++o1.map (x::·));rw [←qlw];rcases key with e | ⟨g1,g2⟩
          · rw [←e];exact h3
          · refine .inr ⟨?_,by simp only [List.length_append,List.length_map];omega⟩
            simp only [List.length_append,List.length_map] at h4;omega
theorem dbT_tr (l:List (ByteArray×Int×Bool)) (need:List Int) (hn:∀x∈need,0≤x):TR (dbT need l) (full need (usable l)):=by
  rw [dbT];cases hz:zeroL need with
  | true=>rw [if_pos rfl,full_zero hz];exact .inl rfl
  | false=>rw [if_neg (by simp)];simpa using loopS_tr l need [] hz (fun _ _=>trivial) hn
def cntK {α:Type} (kd:α→Int) (l:List α) (k:Int):Int:=((l.filter fun a=>decide (kd a=k)).length:Int)
theorem cntK_nil {α:Type} (kd:α→Int) (k:Int):cntK kd [] k=0:=rfl
theorem cntK_cons {α:Type} (kd:α→Int) (a:α) (l:List α) (k:Int):cntK kd (a::l) k=(if kd a=k then 1 else 0)+cntK kd l k:=by
  rw [cntK,qmd]
  by_cases h:kd a=k
  · rw [if_pos (decide_eq_true h),if_pos h,qmf,cntK];omega
  · rw [if_neg (by simpa using h),if_neg h,cntK];omega
theorem cntK_app {α:Type} (kd:α→Int) (a b:List α) (k:Int):cntK kd (a++b) k=cntK kd a k+cntK kd b k:=by
  rw [cntK,List.filter_append,qlm,cntK,cntK];omega
theorem cntK_len {α:Type} {kd:α→Int}:∀{l:List α},(∀a∈l,0≤kd a∧kd a≤3)→(l.length:Int)=cntK kd l 0+cntK kd l 1+cntK kd l 2+cntK kd l 3
  | [],_=>rfl
  | a::l,h=>by
    have h1:=cntK_len (l:=l) fun b hb=>h b (qlg _ hb)
    have h2:=h a (qle ..);rw [cntK_cons,cntK_cons,cntK_cons,cntK_cons,qmf];have:kd a=0∨kd a=1∨kd a=2∨kd a=3:=by omega
    rcases this with e | e | e | e<;>simp [e]<;>omega
theorem dec_get {need:List Int} {k j:Int} (hl:need.length=4) (hk:0≤k∧k≤3) (hj:0≤j∧j≤3):(decK need k).getD j.toNat 0=need.getD j.toNat 0 - (if k=j then 1 else 0):=by
  rw [decK,qld,List.getElem?_set]
  by_cases h:k=j
  · subst h
    rw [if_pos rfl,if_pos (by omega),if_pos rfl];rfl
  · rw [if_neg (by omega),if_neg h,qld];omega
theorem zero_get {need:List Int} (h:zeroL need=true) (j:Int):need.getD j.toNat 0=0:=by
  rw [qld];cases e:need[j.toNat]? with
  | none=>rfl
  | some v=>exact of_decide_eq_true (qlh.1 h v (qlb e))
theorem zero_of {need:List Int} (hl:need.length=4) (h:∀j:Int,0≤j∧j≤3→need.getD j.toNat 0=0):zeroL need=true:=by
  refine qlh.2 fun x hx=> ?_
  obtain ⟨i,hi,e⟩:=List.mem_iff_getElem.1 hx;have:=h i ⟨by omega,by omega⟩;rw [qld,ql2,qla hi] at this;exact decide_eq_true (by rw [←e];exact this)
theorem full_mem {α:Type} {f:α→ByteArray×Int}:∀{l:List α} {need:List Int} {y:List ByteArray},(∀a∈l,0≤(f a).2∧(f a).2≤3)→need.length=4→y∈full need (l.map f)→
    ∃z:List α,z.Sublist l∧y=z.map (fun a=>(f a).1)∧∀j:Int,0≤j∧j≤3→cntK (fun a=>(f a).2) z j=need.getD j.toNat 0
  | [],need,y,_,hn,h=>by
    rw [List.map_nil,full] at h;cases hz:zeroL need with
    | true=>
      rw [if_pos hz] at h;obtain rfl:y=[]:=by simpa using h
      exact ⟨[],List.Sublist.refl _,rfl,fun j _=>by rw [zero_get hz];rfl⟩
    | false=>rw [if_neg (by simp [hz])] at h;cases h
  | a ::l,need,y,hk,hn,h=>by
    cases hz:zeroL need with
    | true=>
      rw [full_zero hz] at h;obtain rfl:y=[]:=by simpa using h
      exact ⟨[],List.nil_sublist _,rfl,fun j _=>by rw [zero_get hz];rfl⟩
    | false=>
      have hka:=hk a (qle ..);have hkl:∀b∈l,0≤(f b).2∧(f b).2≤3:=fun b hb=>hk b (qlg _ hb)
      rw [List.map_cons,show f a=((f a).1,(f a).2) from rfl,full_cons hz] at h;rcases qll.1 h with h | h
      · split at h
        · obtain ⟨y',hy,rfl⟩:=qma.1 h
          obtain ⟨z,h1,h2,h3⟩:=full_mem hkl (by rw [decK,qln];exact hn) hy;refine ⟨a::z,h1.cons_cons a,by rw [h2];rfl,fun j hj=> ?_⟩;rw [cntK_cons,h3 j hj,dec_get hn hka hj];omega
        · cases h
      · obtain ⟨z,h1,h2,h3⟩:=full_mem hkl hn h
        exact ⟨z,h1.cons a,h2,h3⟩
theorem full_nodup {α:Type} {f:α→ByteArray×Int}:∀{l:List α} {need:List Int},(∀a∈l,0≤(f a).2∧(f a).2≤3)→need.length=4→(l.map fun a=>(f a).1).Nodup→(full need (l.map f)).Nodup
  | [],need,_,_,_=>by rw [List.map_nil,full];split<;>simp
  | a ::l,need,hk,hn,hd=>by
    cases hz:zeroL need with
    | true=>rw [full_zero hz];simp
    | false=>
      have hkl:∀b∈l,0≤(f b).2∧(f b).2≤3:=fun b hb=>hk b (qlg _ hb)
      rw [List.map_cons] at hd;obtain ⟨d1,d2⟩:=List.nodup_cons.1 hd;rw [List.map_cons,show f a=((f a).1,(f a).2) from rfl,full_cons hz];refine List.nodup_append.2 ⟨?_,full_nodup hkl hn d2,?_⟩
      · split
        · exact List.Pairwise.map _ (fun x y h e=>h (List.cons.inj e).2) (full_nodup hkl (by rw [decK,qln];exact hn) d2)
        · exact List.nodup_nil
      · intro x hx y hy e
        subst e;split at hx
        · obtain ⟨x',_,rfl⟩:=qma.1 hx
          obtain ⟨z,h1,h2,_⟩:=full_mem hkl hn hy;have:(f a).1∈z.map fun a=>(f a).1:=by rw [←h2];exact qle ..
          exact d1 ((h1.map _).subset this)
        · cases hx
theorem nodup_len {α:Type} [DecidableEq α]:∀{a b:List α},a.Nodup→(∀x∈a,x∈b)→a.length≤b.length
  | [],_,_,_=>qlk _
  | x::a,b,hd,h=>by
    obtain ⟨h1,h2⟩:=List.nodup_cons.1 hd;have hx:=h x (qle ..);have:=nodup_len (a:=a) (b:=b.erase x) h2 fun y hy=>(List.mem_erase_of_ne (by intro e;subst e;exact h1 hy)).2 (h y (qlg _ hy))
    rw [List.length_erase_of_mem hx] at this;have:0 < b.length:=List.length_pos_of_mem hx;rw [qmf];omega
theorem cnt_le {kd:Int→Int} {a b:List Int} (hd:a.Nodup) (k:Int) (h:∀x∈a,kd x=k→x∈b):cntK kd a k≤cntK kd b k:=by
  have:=nodup_len (a:=a.filter fun a=>decide (kd a=k)) (b:=b.filter fun a=>decide (kd a=k)) (hd.filter _) fun x hx=>by
    rw [List.mem_filter] at hx⊢;exact ⟨h x hx.1 (of_decide_eq_true hx.2),hx.2⟩
  rw [cntK,cntK];omega
def pickG (kd:Int→Int) (s:List Int×List Int) (i:Int):List Int×List Int:=if 0 < s.1.getD (kd i).toNat 0 then (decK s.1 (kd i),s.2++[i]) else s
structure PkInv (kd:Int→Int) (need p:List Int) (s:List Int×List Int):Prop where
  len:s.1.length=4
  num:∀j:Int,0≤j∧j≤3→0≤s.1.getD j.toNat 0∧s.1.getD j.toNat 0+cntK kd s.2 j=need.getD j.toNat 0∧(s.1.getD j.toNat 0=0∨cntK kd s.2 j=cntK kd p j)
  sub:s.2.Sublist p
  fst:∀i∈s.2,∃a b,p=a++i::b∧cntK kd a (kd i) < need.getD (kd i).toNat 0
theorem pk_step {kd:Int→Int} {need p:List Int} {s:List Int×List Int} {i:Int} (h:PkInv kd need p s) (hi:0≤kd i∧kd i≤3):PkInv kd need (p++[i]) (pickG kd s i):=by
  have hf:∀x∈s.2,∃a b,p++[i]=a++x::b∧cntK kd a (kd x) < need.getD (kd x).toNat 0:=fun x hx=>by
    obtain ⟨a,b,e,q⟩:=h.fst x hx;exact ⟨a,b++[i],by rw [e];simp,q⟩
  unfold pickG;split
  · rename_i hp
    refine ⟨by rw [decK,qln];exact h.len,fun j hj=> ?_,h.sub.append (List.Sublist.refl _),fun x hx=> ?_⟩
    · obtain ⟨h1,h2,h3⟩:=h.num j hj
      show 0≤(decK s.1 (kd i)).getD j.toNat 0∧(decK s.1 (kd i)).getD j.toNat 0+cntK kd (s.2++[i]) j=_∧((decK s.1 (kd i)).getD j.toNat 0=0∨cntK kd (s.2++[i]) j=_);rw [dec_get h.len hi hj,cntK_app,cntK_app,cntK_cons,cntK_nil]
      by_cases e:kd i=j
      · subst e
        simp only [if_true];refine ⟨by omega,by omega,?_⟩;rcases h3 with h3 | h3
        · omega
        · right;omega
      · simp only [e,if_false]
        refine ⟨by omega,by omega,?_⟩;rcases h3 with h3 | h3
        · left;omega
        · right;omega
    · rcases qll.1 hx with hx | hx
      · exact hf x hx
      · obtain rfl:=qli.1 hx
        obtain ⟨h1,h2,h3⟩:=h.num (kd x) hi;exact ⟨p,[],rfl,by rcases h3 with h3 | h3<;>omega⟩
  · rename_i hp
    refine ⟨h.len,fun j hj=> ?_,h.sub.trans (List.sublist_append_left ..),hf⟩;obtain ⟨h1,h2,h3⟩:=h.num j hj;refine ⟨h1,h2,?_⟩;rw [cntK_app,cntK_cons,cntK_nil]
    by_cases e:kd i=j
    · subst e;left;omega
    · simp only [e,if_false]
      rcases h3 with h3 | h3
      · left;exact h3
      · right;omega
theorem pk_inv {kd:Int→Int} {need:List Int} (hl:need.length=4) (hn:∀j:Int,0≤need.getD j.toNat 0):∀(order:List Int),(∀i∈order,0≤kd i∧kd i≤3)→PkInv kd need order (order.foldl (pickG kd) (need,[])):=by
  have key:∀(order p:List Int) (s:List Int×List Int),PkInv kd need p s→(∀i∈order,0≤kd i∧kd i≤3)→PkInv kd need (p++order) (order.foldl (pickG kd) s):=by
    intro order
    induction order with
    | nil=>intro p s h _;rw [ql6];exact h
    | cons i l ih=>
      intro p s h hk;rw [List.foldl_cons];have:=ih (p++[i]) (pickG kd s i) (pk_step h (hk i (qle ..))) fun j hj=>hk j (qlg _ hj)
      rwa [qlw] at this
  intro order hk;have:=key order [] (need,[]) ⟨hl,fun j _=>⟨hn j,(by show need.getD j.toNat 0+cntK kd [] j=_;rw [cntK_nil];omega),.inr rfl⟩,List.Sublist.refl _,fun i hi=>by cases hi⟩ hk
  rwa [List.nil_append] at this
theorem greedy_best {kd key:Int→Int} {need order z:List Int} (hl:need.length=4) (hn:∀j:Int,0≤need.getD j.toNat 0) (hk:∀i∈order,0≤kd i∧kd i≤3) (hs:order.Pairwise fun i j=>key i≤key j)
    (hd:z.Nodup) (hz:∀i∈z,i∈order) (hc:∀j:Int,0≤j∧j≤3→cntK kd z j=need.getD j.toNat 0) :
    zeroL (order.foldl (pickG kd) (need,[])).1=true∧(order.foldl (pickG kd) (need,[])).2.length=z.length∧∀i∈(order.foldl (pickG kd) (need,[])).2,∃c∈z,key i≤key c:=by
  have h:=pk_inv hl hn order hk;generalize order.foldl (pickG kd) (need,[])=s at h⊢;have h0:∀j:Int,0≤j∧j≤3→s.1.getD j.toNat 0=0:=fun j hj=>by
    obtain ⟨h1,h2,h3⟩:=h.num j hj;rcases h3 with h3 | h3
    · exact h3
    · have:=cnt_le (kd:=kd) (b:=order) hd j fun x hx _=>hz x hx
      have:=hc j hj;omega
  refine ⟨zero_of h.len h0,?_,fun i hi=> ?_⟩
  · have e1:=cntK_len (kd:=kd) (l:=s.2) fun a ha=>hk a (h.sub.subset ha)
    have e2:=cntK_len (kd:=kd) (l:=z) fun a ha=>hk a (hz a ha)
    have g:∀j:Int,0≤j∧j≤3→cntK kd s.2 j=cntK kd z j:=fun j hj=>by
      have:=(h.num j hj).2.1;have:=h0 j hj;have:=hc j hj;omega
    have:=g 0 (by omega);have:=g 1 (by omega);have:=g 2 (by omega);have:=g 3 (by omega);omega
  · obtain ⟨a,b,e,q⟩:=h.fst i hi
    have hki:=hk i (h.sub.subset hi);have:∃c∈z,kd c=kd i∧c ∉ a:=by
      refine Classical.byContradiction fun hne=> ?_
      have hc':=cnt_le (kd:=kd) (b:=a) hd (kd i) fun x hx hxk=>Classical.byContradiction fun hxa=>hne ⟨x,hx,hxk,hxa⟩
      have:=hc (kd i) hki;omega
    obtain ⟨c,hcz,_,hca⟩:=this;refine ⟨c,hcz,?_⟩;have hco:=hz c hcz;rw [e] at hco hs;rcases qll.1 hco with q' | q'
    · exact absurd q' hca
    · have hp:=(List.pairwise_append.1 hs).2.1
      rcases ql0.1 q' with rfl | q'
      · exact Int.le_refl _
      · exact (List.pairwise_cons.1 hp).1 c q'
theorem loopI_hit {need:List Int} {l:List (ByteArray×Int)} {names:List ByteArray} {out:List (List ByteArray)} {x:ByteArray} {k:Int} (h:¬20 < out.length) (hp:0 < need.getD k.toNat 0) :
    loopI need ((x,k)::l) names out=loopI need l names (extI (decK need k) l (names++[x]) out):=by rw [loopI,if_neg h,if_pos hp];rfl
theorem loopI_miss {need:List Int} {l:List (ByteArray×Int)} {names:List ByteArray} {out:List (List ByteArray)} {x:ByteArray} {k:Int} (h:¬20 < out.length) (hp:¬0 < need.getD k.toNat 0) :
    loopI need ((x,k)::l) names out=loopI need l names out:=by rw [loopI,if_neg h,if_neg hp]
theorem loopI_full {need:List Int} {names:List ByteArray} {out:List (List ByteArray)} (h:20 < out.length):∀l,loopI need l names out=out
  | []=>rfl
  | (x,k)::l=>by rw [loopI,if_pos h]
theorem loopI_le:∀(l:List (ByteArray×Int)) (need:List Int) (names:List ByteArray) (out:List (List ByteArray)),(loopI need l names out).length≤max out.length 21
  | [],_,_,out=>by rw [loopI];omega
  | (x, k)::l,need,names,out=>by
    rw [loopI];split
    · omega
    · rename_i h
      split
      · have h1:(if zeroL (decK need k)=true then out++[names++[x]] else loopI (decK need k) l (names++[x]) out).length≤21:=by
          split
          · rw [qlm,List.length_singleton];omega
          · have:=loopI_le l (decK need k) (names++[x]) out;omega
        have h2:=loopI_le l need names (if zeroL (decK need k)=true then out++[names++[x]] else loopI (decK need k) l (names++[x]) out);omega
      · exact loopI_le l need names out
theorem extI_le (need:List Int) (l:List (ByteArray×Int)) (names:List ByteArray) (out:List (List ByteArray)) (h:out.length≤20):(extI need l names out).length≤21:=by
  rw [extI];split
  · rw [qlm,List.length_singleton];omega
  · have:=loopI_le l need names out;omega
theorem loopS_hit {need:List Int} {l:List (ByteArray×Int×Bool)} {out:List (List ByteArray)} {x:ByteArray} {k:Int} (h:¬20 < out.length) (hp:¬need.getD k.toNat 0=0) :
    loopS need ((x,k,true)::l) out=loopS need l (out++(dbT (decK need k) l).map (x::·)):=by rw [loopS,if_neg h,if_pos ⟨rfl,hp⟩];rfl
theorem loopS_miss {need:List Int} {l:List (ByteArray×Int×Bool)} {out:List (List ByteArray)} {x:ByteArray} {k:Int} {u:Bool} (h:¬20 < out.length) (hp:u=false∨need.getD k.toNat 0=0) :
    loopS need ((x,k,u)::l) out=loopS need l out:=by
  rw [loopS,if_neg h,if_neg];rintro ⟨h1,h2⟩;rcases hp with q | q
  · rw [q] at h1;cases h1
  · exact h2 q
theorem loopS_full {need:List Int} {out:List (List ByteArray)} (h:20 < out.length):∀l,loopS need l out=out
  | []=>rfl
  | (x,k,u)::l=>by rw [loopS,if_pos h]
theorem loopS_le:∀(l:List (ByteArray×Int×Bool)) (need:List Int) (out:List (List ByteArray)),(loopS need l out).length≤max out.length (20 * l.length+21)
  | [],_,out=>by rw [loopS];omega
  | (x, k,u)::l,need,out=>by
    rw [loopS];split
    · omega
    · split
      · have h1:(if zeroL (decK need k)=true then [[]] else loopS (decK need k) l []).length≤20 * l.length+21:=by
          split
          · simp
          · have:=loopS_le l (decK need k) [];rw [List.length_nil] at this;omega
        have h2:=loopS_le l need (out++(if zeroL (decK need k)=true then [[]] else loopS (decK need k) l []).map (x::·));rw [qlm,ql7] at h2;rw [qmf];omega
      · have:=loopS_le l need out
        rw [qmf];omega
theorem dbT_le (need:List Int) (l:List (ByteArray×Int×Bool)):(dbT need l).length≤20 * l.length+21:=by
  rw [dbT];split
  · simp
  · have:=loopS_le l need [];rw [List.length_nil] at this;omega
theorem loopS_in:∀(l:List (ByteArray×Int×Bool)) (need:List Int) (out:List (List ByteArray)),∀r∈loopS need l out,r∈out∨r.length≤l.length
  | [],_,_,r,h=>.inl h
  | (x, k, u) ::l,need,out,r,h=>by
    rw [loopS] at h;split at h
    · exact .inl h
    · split at h
      · rcases loopS_in l need _ r h with q | q
        · rcases qll.1 q with q | q
          · exact .inl q
          · obtain ⟨y,hy,rfl⟩:=qma.1 q
            right;split at hy
            · obtain rfl:=qli.1 hy;simp
            · rcases loopS_in l _ [] y hy with z | z
              · cases z
              · simpa using z
        · exact .inr (Nat.le_succ_of_le q)
      · exact (loopS_in l need out r h).imp_right Nat.le_succ_of_le
theorem dbT_in {need:List Int} {l:List (ByteArray×Int×Bool)}:∀r∈dbT need l,r.length≤l.length:=by
  intro r h;rw [dbT] at h;split at h
  · obtain rfl:=qli.1 h;simp
  · exact (loopS_in l need [] r h).resolve_left fun q=>by cases q
theorem decK_ok {need:List Int} {k:Int} (hn:need.length=4∧∀x∈need,0≤x∧x≤6) (hp:0 < need.getD k.toNat 0):(decK need k).length=4∧∀x∈decK need k,0≤x∧x≤6:=by
  refine ⟨by rw [decK,qln];exact hn.1,fun x hx=> ?_⟩;rcases List.mem_or_eq_of_mem_set hx with q | q
  · exact hn.2 x q
  · have hk:need.getD k.toNat 0≤6:=by
      rw [qld] at hp⊢;cases hz:need[k.toNat]? with
      | none=>rw [hz] at hp;simp at hp
      | some z=>simpa using (hn.2 z (qlb hz)).2
    omega
theorem need_at {need:List Int} {k:Nat} (hn:need.length=4∧∀x∈need,0≤x∧x≤6) (hk:k≤3):∃v,need[k]? =some v∧0≤v∧v≤6∧need.getD ((k:Int)).toNat 0=v:=by
  have hl:k < need.length:=by omega
  have h:=hn.2 _ (List.getElem_mem hl);exact ⟨need[k],qla hl,h.1,h.2,by rw [ql2,qld,qla hl];rfl⟩
theorem full_len:∀{l:List (ByteArray×Int)} {need:List Int} {r:List ByteArray},r∈full need l→r.length≤l.length
  | [],need,r,h=>by
    rw [full] at h;split at h
    · obtain rfl:=qli.1 h;exact qlu _
    · cases h
  | (x, k)::l,need,r,h=>by
    rw [full] at h;split at h
    · obtain rfl:=qli.1 h;exact qlk _
    · rcases qll.1 h with h | h
      · split at h
        · obtain ⟨y,hy,rfl⟩:=qma.1 h
          rename_i hp;have:=full_len hy;simpa using this
        · cases h
      · exact Nat.le_succ_of_le (full_len h)
theorem nsI (l:List Int):(l.map (V.int .i64)).all V.noSl=true:=by rw [List.all_map,qlh];intro a _;rfl
def triL (fl:List TA) (ub:List Bool):List (ByteArray×Int×Bool):=List.zipWith (fun a u=>(a.1,a.2.1,u)) fl ub
theorem tri_len {fl:List TA} {ub:List Bool} (h:ub.length=fl.length):(triL fl ub).length=fl.length:=by rw [triL,List.length_zipWith];omega
theorem tri_drop {fl:List TA} {ub:List Bool} {i:Nat} {x:TA} {u:Bool} (h:fl[i]? =some x) (hu:ub[i]? =some u):(triL fl ub).drop i=(x.1,x.2.1,u)::(triL fl ub).drop (i+1):=by
  have:(triL fl ub)[i]? =some (x.1,x.2.1,u):=by rw [triL,List.getElem?_zipWith,h,hu]
  exact getElem_drop_cons this
theorem snoc_TT {l:List (List ByteArray)} {y:List ByteArray}:l.map (fun l:List ByteArray=>V.sl (l.map V.str))++[V.sl (y.map V.str)]=(l++[y]).map (fun l:List ByteArray=>V.sl (l.map V.str)):=by rw [ql1];rfl
theorem fillK_snocT {α:Type} {l:List α} {x:α}:fillK (l++[x]).length=fillK (l.length+1):=by simp
theorem take_snoc {α:Type} {l:List α} {i:Nat} {x:α} (h:l[i]? =some x):l.take (i+1)=l.take i++[x]:=by rw [qme,h];rfl
theorem l1zero (need:List Int):(need.all fun x=>inR x 0 0)=zeroL need:=by
  rw [zeroL]
  congr 1
  funext x
  rw [inR]
  by_cases h:x=0
  · subst h;rfl
  · rw [decide_eq_false h]
    by_cases h0:0≤x
    · rw [decide_eq_true h0,decide_eq_false (by omega)];rfl
    · rw [decide_eq_false h0];rfl
end Go.Proofs.YtmhaafinhpopmaaGreat
