/- What functions compute. No condition. -/
import Derived.Test.YtmhaafinhpopmaaX10
set_option linter.unusedSimpArgs false
set_option linter.unusedVariables false
set_option linter.defProp false
namespace Go.Proofs.Ytmhaafinhpopmaa
open Go Go.Vm
set_option maxHeartbeats 8000000
def zeroL (need:List Int):Bool:=need.all fun x=>decide (x=0)
def decK (need:List Int) (k:Int):List Int:=need.set k.toNat (need.getD k.toNat 0 - 1)
def full:List Int→List (ByteArray×Int)→List (List ByteArray)
  | need,[]=>if zeroL need then [[]] else []
  | need,(x,k)::l=>if zeroL need then [[]] else (if 0 < need.getD k.toNat 0 then (full (decK need k) l).map (x::·) else [])++full need l
def loopI:List Int→List (ByteArray×Int)→List ByteArray→List (List ByteArray)→List (List ByteArray)
  | _,[],_,out=>out
  | need,(x,k)::l,names,out=>if 20 < out.length then out else
    if 0 < need.getD k.toNat 0 then loopI need l names (if zeroL (decK need k) then out++[names++[x]] else loopI (decK need k) l (names++[x]) out) else loopI need l names out
def extI (need:List Int) (l:List (ByteArray×Int)) (names:List ByteArray) (out:List (List ByteArray)):List (List ByteArray):=if zeroL need then out++[names] else loopI need l names out
def loopS:List Int→List (ByteArray×Int×Bool)→List (List ByteArray)→List (List ByteArray)
  | _,[],out=>out
  | need,(x,k,u)::l,out=>if 20 < out.length then out else
    if u=true∧¬need.getD k.toNat 0=0 then loopS need l (out++(if zeroL (decK need k) then [[]] else loopS (decK need k) l []).map (x::·)) else loopS need l out
def dbT (need:List Int) (l:List (ByteArray×Int×Bool)):List (List ByteArray):=if zeroL need then [[]] else loopS need l []
def TR (out all:List (List ByteArray)):Prop:=out=all∨(20 < out.length∧20 < all.length)
theorem full_zero {need:List Int} (h:zeroL need=true):∀l,full need l=[[]]
  | []=>by rw [full,if_pos h]
  | (x,k)::l=>by rw [full,if_pos h]
theorem full_cons {need:List Int} (h:zeroL need=false) (x:ByteArray) (k:Int) (l):full need ((x,k)::l)=(if 0 < need.getD k.toNat 0 then (full (decK need k) l).map (x::·) else [])++full need l:=by rw [full,if_neg (by simp [h])]
theorem loopI_len:∀(l:List (ByteArray×Int)) (need:List Int) (names:List ByteArray) (out:List (List ByteArray)),out.length≤(loopI need l names out).length
  | [],_,_,_=>qlu _
  | (x, k)::l,need,names,out=>by
    rw [loopI];split
    · exact qlu _
    · split
      · refine ql9 ?_ (loopI_len l need names _)
        split
        · simp
        · exact loopI_len l _ _ out
      · exact loopI_len l need names out
theorem loopI_tr:∀(l:List (ByteArray×Int)) (need:List Int) (names:List ByteArray) (out:List (List ByteArray)),zeroL need=false→
    TR (loopI need l names out) (out++(full need l).map (names++·))
  | [],need,names,out,h=>by left;simp [loopI,full,h]
  | (x, k) :: l,need,names,out,h=>by
    rw [loopI,full_cons h];split
    · rename_i h1
      exact .inr ⟨h1,by rw [qlm];omega⟩
    · rename_i h1
      split
      · rename_i h2
        simp only [List.map_append,List.map_map];have key:TR (if zeroL (decK need k)=true then out++[names++[x]] else loopI (decK need k) l (names++[x]) out) (out++(full (decK need k) l).map (fun y=>names++x::y)):=by
          cases hz:zeroL (decK need k) with
          | true=>rw [if_pos rfl,full_zero hz];exact .inl rfl
          | false=>
            rw [if_neg (by simp)];have:=loopI_tr l (decK need k) (names++[x]) out hz;simpa only [List.append_assoc,List.singleton_append] using this
        generalize (if zeroL (decK need k)=true then out++[names++[x]] else loopI (decK need k) l (names++[x]) out)=o1 at key⊢;have h3:=loopI_tr l need names o1 h;have h4:=loopI_len l need names o1;rw [←qls];have hf:((fun x=>names++x)∘fun x_1=>x::x_1)=(fun y=>names++x::y):=rfl;rw [hf];rcases key with e | ⟨g1,g2⟩
        · rw [←e];exact h3
        · exact .inr ⟨by omega,by rw [qlm];omega⟩
      · rename_i h2
        simpa using loopI_tr l need names out h
theorem extI_tr (l:List (ByteArray×Int)) (need:List Int) (names:List ByteArray) (out:List (List ByteArray)):TR (extI need l names out) (out++(full need l).map (names++·)):=by
  rw [extI];cases hz:zeroL need with
  | true=>rw [if_pos rfl,full_zero hz];left;simp
  | false=>rw [if_neg (by simp)];exact loopI_tr l need names out hz
theorem loopS_len:∀(l:List (ByteArray×Int×Bool)) (need:List Int) (out:List (List ByteArray)),out.length≤(loopS need l out).length
  | [],_,_=>qlu _
  | (x,k,u)::l,need,out=>by
    rw [loopS];split
    · exact qlu _
    · split
      · exact ql9 (by simp) (loopS_len l need _)
      · exact loopS_len l need out
def usable (l:List (ByteArray×Int×Bool)):List (ByteArray×Int):=l.filterMap fun t=>if t.2.2 then some (t.1,t.2.1) else none
theorem loopS_tr:∀(l:List (ByteArray×Int×Bool)) (need:List Int) (out:List (List ByteArray)),zeroL need=false→(∀t∈l,True)→(∀x∈need,0≤x)→
    TR (loopS need l out) (out++full need (usable l))
  | [],need,out,h,_,_=>by left;simp [loopS,usable,full,h]
  | (x, k, u) ::l,need,out,h,hl,hn=>by
    have hg:0≤need.getD k.toNat 0:=by
      rw [qlc];cases e:need[k.toNat]? with
      | none=>simp
      | some v=>simpa using hn v (qlb e)
    have hd:0 < need.getD k.toNat 0→∀x∈decK need k,0≤x:=by
      intro hp y hy;rcases List.mem_or_eq_of_mem_set hy with q | q
      · exact hn y q
      · omega
    rw [loopS];split
    · rename_i h1
      exact .inr ⟨h1,by rw [qlm];omega⟩
    · rename_i h1
      cases u with
      | false=>
        rw [if_neg (by simp)];have:usable ((x,k,false)::l)=usable l:=by rw [usable,List.filterMap_cons];rfl
        rw [this];exact loopS_tr l need out h (fun _ _=>trivial) hn
      | true =>
        have hu:usable ((x,k,true)::l)=(x,k)::usable l:=by rw [usable,List.filterMap_cons];rfl
        rw [hu,full_cons h]
        by_cases h2:need.getD k.toNat 0=0
        · rw [if_neg (fun q=>q.2 h2),if_neg (by omega),List.nil_append]
          exact loopS_tr l need out h (fun _ _=>trivial) hn
        · have hp:0 < need.getD k.toNat 0:=by omega
          rw [if_pos ⟨rfl,h2⟩,if_pos hp];have key:TR (if zeroL (decK need k)=true then [[]] else loopS (decK need k) l []) (full (decK need k) (usable l)):=by
            cases hz:zeroL (decK need k) with
            | true=>rw [if_pos rfl,full_zero hz];exact .inl rfl
            | false=>
              rw [if_neg (by simp)];simpa using loopS_tr l (decK need k) [] hz (fun _ _=>trivial) (hd hp)
          generalize (if zeroL (decK need k)=true then [[]] else loopS (decK need k) l [])=o1 at key⊢;have h3:=loopS_tr l need (out++o1.map (x::·)) h (fun _ _=>trivial) hn;have h4:=loopS_len l need (out++o1.map (x::·));rw [←qls];rcases key with e | ⟨g1,g2⟩
          · rw [←e];exact h3
          · refine .inr ⟨?_,by simp only [List.length_append,List.length_map];omega⟩
            simp only [List.length_append,List.length_map] at h4;omega
theorem dbT_tr (l:List (ByteArray×Int×Bool)) (need:List Int) (hn:∀x∈need,0≤x):TR (dbT need l) (full need (usable l)):=by
  rw [dbT];cases hz:zeroL need with
  | true=>rw [if_pos rfl,full_zero hz];exact .inl rfl
  | false=>rw [if_neg (by simp)];simpa using loopS_tr l need [] hz (fun _ _=>trivial) hn
theorem loopI_hit {need:List Int} {l:List (ByteArray×Int)} {names:List ByteArray} {out:List (List ByteArray)} {x:ByteArray} {k:Int} (h:¬20 < out.length) (hp:0 < need.getD k.toNat 0) :
    loopI need ((x,k)::l) names out=loopI need l names (extI (decK need k) l (names++[x]) out):=by rw [loopI,if_neg h,if_pos hp];rfl
theorem loopI_miss {need:List Int} {l:List (ByteArray×Int)} {names:List ByteArray} {out:List (List ByteArray)} {x:ByteArray} {k:Int} (h:¬20 < out.length) (hp:¬0 < need.getD k.toNat 0) :
    loopI need ((x,k)::l) names out=loopI need l names out:=by rw [loopI,if_neg h,if_neg hp]
theorem loopI_full {need:List Int} {names:List ByteArray} {out:List (List ByteArray)} (h:20 < out.length):∀l,loopI need l names out=out
  | []=>rfl
  | (x,k)::l=>by rw [loopI,if_pos h]
theorem loopI_le:∀(l:List (ByteArray×Int)) (need:List Int) (names:List ByteArray) (out:List (List ByteArray)),(loopI need l names out).length≤max out.length 21
  | [],_,_,out=>by rw [loopI];omega
  | (x, k)::l,need,names,out=>by
    rw [loopI];split
    · omega
    · rename_i h
      split
      · have h1:(if zeroL (decK need k)=true then out++[names++[x]] else loopI (decK need k) l (names++[x]) out).length≤21:=by
          split
          · rw [qlm,List.length_singleton];omega
          · have:=loopI_le l (decK need k) (names++[x]) out;omega
        have h2:=loopI_le l need names (if zeroL (decK need k)=true then out++[names++[x]] else loopI (decK need k) l (names++[x]) out);omega
      · exact loopI_le l need names out
theorem extI_le (need:List Int) (l:List (ByteArray×Int)) (names:List ByteArray) (out:List (List ByteArray)) (h:out.length≤20):(extI need l names out).length≤21:=by
  rw [extI];split
  · rw [qlm,List.length_singleton];omega
  · have:=loopI_le l need names out;omega
theorem loopS_hit {need:List Int} {l:List (ByteArray×Int×Bool)} {out:List (List ByteArray)} {x:ByteArray} {k:Int} (h:¬20 < out.length) (hp:¬need.getD k.toNat 0=0) :
    loopS need ((x,k,true)::l) out=loopS need l (out++(dbT (decK need k) l).map (x::·)):=by rw [loopS,if_neg h,if_pos ⟨rfl,hp⟩];rfl
theorem loopS_miss {need:List Int} {l:List (ByteArray×Int×Bool)} {out:List (List ByteArray)} {x:ByteArray} {k:Int} {u:Bool} (h:¬20 < out.length) (hp:u=false∨need.getD k.toNat 0=0) :
    loopS need ((x,k,u)::l) out=loopS need l out:=by
  rw [loopS,if_neg h,if_neg];rintro ⟨h1,h2⟩;rcases hp with q | q
  · rw [q] at h1;cases h1
  · exact h2 q
theorem loopS_full {need:List Int} {out:List (List ByteArray)} (h:20 < out.length):∀l,loopS need l out=out
  | []=>rfl
  | (x,k,u)::l=>by rw [loopS,if_pos h]
theorem loopS_le:∀(l:List (ByteArray×Int×Bool)) (need:List Int) (out:List (List ByteArray)),(loopS need l out).length≤max out.length (20 * l.length+21)
  | [],_,out=>by rw [loopS];omega
  | (x, k,u)::l,need,out=>by
    rw [loopS];split
    · omega
    · split
      · have h1:(if zeroL (decK need k)=true then [[]] else loopS (decK need k) l []).length≤20 * l.length+21:=by
          split
          · simp
          · have:=loopS_le l (decK need k) [];rw [List.length_nil] at this;omega
        have h2:=loopS_le l need (out++(if zeroL (decK need k)=true then [[]] else loopS (decK need k) l []).map (x::·));rw [qlm,qmb] at h2;rw [ql7];omega
      · have:=loopS_le l need out
        rw [ql7];omega
theorem dbT_le (need:List Int) (l:List (ByteArray×Int×Bool)):(dbT need l).length≤20 * l.length+21:=by
  rw [dbT];split
  · simp
  · have:=loopS_le l need [];rw [List.length_nil] at this;omega
theorem loopS_in:∀(l:List (ByteArray×Int×Bool)) (need:List Int) (out:List (List ByteArray)),∀r∈loopS need l out,r∈out∨r.length≤l.length
  | [],_,_,r,h=>.inl h
  | (x, k, u) ::l,need,out,r,h=>by
    rw [loopS] at h;split at h
    · exact .inl h
    · split at h
      · rcases loopS_in l need _ r h with q | q
        · rcases qll.1 q with q | q
          · exact .inl q
          · obtain ⟨y,hy,rfl⟩:=List.mem_map.1 q
            right;split at hy
            · obtain rfl:=qlo.1 hy;simp
            · rcases loopS_in l _ [] y hy with z | z
              · cases z
              · simpa using z
        · exact .inr (Nat.le_succ_of_le q)
      · exact (loopS_in l need out r h).imp_right Nat.le_succ_of_le
theorem dbT_in {need:List Int} {l:List (ByteArray×Int×Bool)}:∀r∈dbT need l,r.length≤l.length:=by
  intro r h;rw [dbT] at h;split at h
  · obtain rfl:=qlo.1 h;simp
  · exact (loopS_in l need [] r h).resolve_left fun q=>by cases q
theorem decK_ok {need:List Int} {k:Int} (hn:need.length=4∧∀x∈need,0≤x∧x≤6) (hp:0 < need.getD k.toNat 0):(decK need k).length=4∧∀x∈decK need k,0≤x∧x≤6:=by
  refine ⟨by rw [decK,qlp];exact hn.1,fun x hx=> ?_⟩;rcases List.mem_or_eq_of_mem_set hx with q | q
  · exact hn.2 x q
  · have hk:need.getD k.toNat 0≤6:=by
      rw [qlc] at hp⊢;cases hz:need[k.toNat]? with
      | none=>rw [hz] at hp;simp at hp
      | some z=>simpa using (hn.2 z (qlb hz)).2
    omega
theorem need_at {need:List Int} {k:Nat} (hn:need.length=4∧∀x∈need,0≤x∧x≤6) (hk:k≤3):∃v,need[k]? =some v∧0≤v∧v≤6∧need.getD ((k:Int)).toNat 0=v:=by
  have hl:k < need.length:=by omega
  have h:=hn.2 _ (List.getElem_mem hl);exact ⟨need[k],qla hl,h.1,h.2,by rw [Int.toNat_natCast,qlc,qla hl];rfl⟩
theorem full_len:∀{l:List (ByteArray×Int)} {need:List Int} {r:List ByteArray},r∈full need l→r.length≤l.length
  | [],need,r,h=>by
    rw [full] at h;split at h
    · obtain rfl:=qlo.1 h;exact qlu _
    · cases h
  | (x, k)::l,need,r,h=>by
    rw [full] at h;split at h
    · obtain rfl:=qlo.1 h;exact qlg _
    · rcases qll.1 h with h | h
      · split at h
        · obtain ⟨y,hy,rfl⟩:=List.mem_map.1 h
          rename_i hp;have:=full_len hy;simpa using this
        · cases h
      · exact Nat.le_succ_of_le (full_len h)
theorem nsI (l:List Int):(l.map (V.int .i64)).all V.noSl=true:=by rw [List.all_map,qlt];intro a _;rfl
def triL (fl:List TA) (ub:List Bool):List (ByteArray×Int×Bool):=List.zipWith (fun a u=>(a.1,a.2.1,u)) fl ub
theorem tri_len {fl:List TA} {ub:List Bool} (h:ub.length=fl.length):(triL fl ub).length=fl.length:=by rw [triL,List.length_zipWith];omega
theorem tri_drop {fl:List TA} {ub:List Bool} {i:Nat} {x:TA} {u:Bool} (h:fl[i]? =some x) (hu:ub[i]? =some u):(triL fl ub).drop i=(x.1,x.2.1,u)::(triL fl ub).drop (i+1):=by
  have:(triL fl ub)[i]? =some (x.1,x.2.1,u):=by rw [triL,List.getElem?_zipWith,h,hu]
  exact getElem_drop_cons this
theorem snoc_TT {l:List (List ByteArray)} {y:List ByteArray}:l.map (fun l:List ByteArray=>V.sl (l.map V.str))++[V.sl (y.map V.str)]=(l++[y]).map (fun l:List ByteArray=>V.sl (l.map V.str)):=by rw [ql2];rfl
theorem fillK_snocT {α:Type} {l:List α} {x:α}:fillK (l++[x]).length=fillK (l.length+1):=by simp
theorem take_snoc {α:Type} {l:List α} {i:Nat} {x:α} (h:l[i]? =some x):l.take (i+1)=l.take i++[x]:=by rw [List.take_add_one,h];rfl
theorem l1zero (need:List Int):(need.all fun x=>inR x 0 0)=zeroL need:=by
  rw [zeroL]
  congr 1
  funext x
  rw [inR]
  by_cases h:x=0
  · subst h;rfl
  · rw [decide_eq_false h]
    by_cases h0:0≤x
    · rw [decide_eq_true h0,decide_eq_false (by omega)];rfl
    · rw [decide_eq_false h0];rfl
end Go.Proofs.Ytmhaafinhpopmaa
