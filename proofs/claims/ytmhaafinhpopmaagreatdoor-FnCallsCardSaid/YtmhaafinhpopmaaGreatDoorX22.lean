/- What functions compute. No condition. -/
import Derived.Test.YtmhaafinhpopmaaGreatDoorX21
import Derived.Test.YtmhaafinhpopmaaGreatDoorX15
import Derived.Test.YtmhaafinhpopmaaGreatDoorX4
set_option linter.unusedSimpArgs false
set_option linter.unusedVariables false
set_option linter.defProp false
namespace Go.Proofs.YtmhaafinhpopmaaGreatDoor
open Go Go.Vm
set_option maxHeartbeats 8000000
def cBody (x:(Int×Int×Int×Int×Int)):ByteArray:=numB x.1.toNat++(⟨#[44]⟩:ByteArray)++numB x.2.1.toNat++(⟨#[44]⟩:ByteArray)++numB x.2.2.1.toNat++(⟨#[44]⟩:ByteArray)++numB x.2.2.2.1.toNat++(⟨#[44]⟩:ByteArray)++numB x.2.2.2.2.toNat
def cT (x:(Int×Int×Int×Int×Int)):ByteArray:=cBody x++(⟨#[59]⟩:ByteArray)
def ctTo (l:List (Int×Int×Int×Int×Int)):Nat→ByteArray
  | 0=>.empty
  | i+1=>match l[i]? with
    | some x=>ctTo l i++cT x
    | none=>ctTo l i
def ctx (l:List (Int×Int×Int×Int×Int)):ByteArray:=ctTo l l.length
theorem ctTo_step {l:List (Int×Int×Int×Int×Int)} {i:Nat} {x:(Int×Int×Int×Int×Int)} (h:l[i]? =some x):ctTo l (i+1)=ctTo l i++cT x:=by rw [ctTo,h]
theorem bz {b:UInt8}:(ByteArray.mk #[b]).size=1:=rfl
theorem num5 {n:Int} (h:0≤n∧n≤99999):(numB n.toNat).size≤5:=numB_size 5 _ (by omega) (by omega)
theorem cBody_size {x:(Int×Int×Int×Int×Int)} (h:cOne x=true):(cBody x).size≤29:=by
  have b:=c_bounds h;have h0:=num5 (n:=x.1) (by omega);have h1:=num5 (n:=x.2.1) (by omega);have h2:=num5 (n:=x.2.2.1) (by omega);have h3:=num5 (n:=x.2.2.2.1) (by omega);have h4:=num5 (n:=x.2.2.2.2) (by omega);simp only [cBody,ByteArray.size_append,bz];omega
theorem cT_size {x:(Int×Int×Int×Int×Int)} (h:cOne x=true):(cT x).size≤30:=by
  have:=cBody_size h;rw [cT,qlz,bz];omega
theorem ctTo_size {l:List (Int×Int×Int×Int×Int)} (h:∀x∈l,cOne x=true):∀i,(ctTo l i).size≤30 * i
  | 0=>qlf _
  | i + 1=>by
    have ih:=ctTo_size h i;cases q:l[i]? with
    | none=>rw [ctTo,q];show (ctTo l i).size≤_;omega
    | some x=>
      have:=cT_size (h x (qlb q));rw [ctTo_step q,qlz];omega
theorem joinB_five (a b c d e s:ByteArray):joinB [a,b,c,d,e] s=a++s++b++s++c++s++d++s++e:=by
  unfold joinB Lib.join;apply ByteArray.ext;simp [List.intercalate,ByteArray.data_append]
def pcT (base:ByteArray) (L:List Int):Nat→ByteArray
  | 0=>base
  | j+1=>(if 0 < j then pcT base L j++(⟨#[44]⟩:ByteArray) else pcT base L j)++numB (L.getD j 0).toNat
theorem pcT_all (base:ByteArray) (a b c d e:Int):pcT base [a,b,c,d,e] 5++(⟨#[59]⟩:ByteArray)=base++cT (a,b,c,d,e):=by
  simp [pcT,cT,cBody,ByteArray.append_assoc]
theorem pcT_size {base:ByteArray} {L:List Int} {m:Nat} (h:∀n∈L,0≤n∧n≤99999) (hb:base.size≤m):∀j,(pcT base L j).size≤m+6 * j
  | 0=>hb
  | j + 1=>by
    have ih:=pcT_size h hb j;have hn:(numB (L.getD j 0).toNat).size≤5:=by
      rw [qld];cases q:L[j]? with
      | none=>exact num5 (n:=0) (by omega)
      | some n=>exact num5 (h n (qlb q))
    rw [pcT];split
    · rw [qlz,qlz,bz];omega
    · rw [qlz];omega
theorem numB_dig:∀(n:Nat),∀c∈toL (numB n),48≤c.toNat∧c.toNat≤57:=by
  intro n
  induction n using Nat.strongRecOn with
  | ind n ih=>
    intro c hc;have hd:∀m:Nat,m < 10→(UInt8.ofNat (48+m)).toNat=48+m:=fun m hm=>by rw [UInt8.toNat_ofNat'];omega
    by_cases h:n < 10
    · rw [numB_lt h] at hc
      have e:c=UInt8.ofNat (48+n):=by simpa [toL] using hc
      rw [e,hd n h];omega
    · rw [numB_ge h,toL_app] at hc
      rcases qlh.1 hc with q | q
      · exact ih (n / 10) (by omega) c q
      · have e:c=UInt8.ofNat (48+n % 10):=by simpa [toL] using q
        rw [e,hd (n % 10) (by omega)];omega
theorem num_no {n:Nat} {c:UInt8} (h:c.toNat < 48∨57 < c.toNat):c ∉ toL (numB n):=fun q=>by
  have:=numB_dig n c q;omega
theorem toL_one (b:UInt8):toL ⟨#[b]⟩=[b]:=rfl
theorem toL_body (x:(Int×Int×Int×Int×Int)):toL (cBody x)=toL (numB x.1.toNat)++44::(toL (numB x.2.1.toNat)++44::(toL (numB x.2.2.1.toNat)++44::(toL (numB x.2.2.2.1.toNat)++44::toL (numB x.2.2.2.2.toNat)))):=by
  simp only [cBody,toL_app,toL_one,List.append_assoc,List.cons_append,List.nil_append]
theorem cut_body (x:(Int×Int×Int×Int×Int)):cutL 44 (toL (cBody x))=[toL (numB x.1.toNat),toL (numB x.2.1.toNat),toL (numB x.2.2.1.toNat),toL (numB x.2.2.2.1.toNat),toL (numB x.2.2.2.2.toNat)]:=by
  have hno:∀n,(44:UInt8) ∉ toL (numB n):=fun n=>num_no (.inl (by decide))
  rw [toL_body,cutL_hit (hno _),cutL_hit (hno _),cutL_hit (hno _),cutL_hit (hno _),cutL_free (hno _)]
theorem body_no (x:(Int×Int×Int×Int×Int)):(59:UInt8) ∉ toL (cBody x):=by
  have hno:∀n,(59:UInt8) ∉ toL (numB n):=fun n=>num_no (.inr (by decide))
  have h44:¬(59:UInt8)=44:=by decide
  rw [toL_body];simp only [List.mem_append,List.mem_cons,hno,h44,or_self,not_false_eq_true]
def txF:List (Int×Int×Int×Int×Int)→List UInt8
  | []=>[]
  | x::l=>toL (cBody x)++59::txF l
theorem txF_snoc (x:(Int×Int×Int×Int×Int)):∀l,txF (l++[x])=txF l++(toL (cBody x)++[59])
  | []=>by simp [txF]
  | y::l=>by rw [List.cons_append,txF,txF_snoc x l,txF];simp
theorem toL_ctTo (l:List (Int×Int×Int×Int×Int)):∀i,i≤l.length→toL (ctTo l i)=txF (l.take i)
  | 0,_=>rfl
  | i+1,h=>by
    have hx:l[i]? =some l[i]:=qla (by omega);rw [ctTo_step hx,toL_app,toL_ctTo l i (by omega),List.take_add_one,hx,Option.toList_some,txF_snoc,cT,toL_app,toL_one]
theorem toL_ctx (l:List (Int×Int×Int×Int×Int)):toL (ctx l)=txF l:=by rw [ctx,toL_ctTo l _ (qlf _),List.take_length]
theorem cut_txF:∀l:List (Int×Int×Int×Int×Int),cutL 59 (txF l)=l.map (fun x=>toL (cBody x))++[[]]
  | []=>rfl
  | x::l=>by rw [txF,cutL_hit (body_no x),cut_txF l];rfl
def prt (s:ByteArray) (b:Int):List ByteArray:=(splitSt s b s.size).1++[s.extract (splitSt s b s.size).2 s.size]
theorem map_toL_inj:∀{a b:List ByteArray},a.map toL=b.map toL→a=b
  | [],[],_=>rfl
  | [],_::_,h=>by cases h
  | _::_,[],h=>by cases h
  | x::a,y::b,h=>by
    rw [qma,qma,List.cons.injEq] at h;rw [toL_inj h.1,map_toL_inj h.2]
theorem prt_ctx (l:List (Int×Int×Int×Int×Int)):prt (ctx l) 59=l.map cBody++[.empty]:=by
  apply map_toL_inj;rw [prt,show (59:Int)=((59:UInt8).toNat:Int) from rfl,parts_cut,toL_ctx,cut_txF,ql5,List.map_map];rfl
theorem prt_body (x:(Int×Int×Int×Int×Int)):prt (cBody x) 44=[numB x.1.toNat,numB x.2.1.toNat,numB x.2.2.1.toNat,numB x.2.2.2.1.toNat,numB x.2.2.2.2.toNat]:=by
  apply map_toL_inj;rw [prt,show (44:Int)=((44:UInt8).toNat:Int) from rfl,parts_cut,cut_body];rfl
def spB (s:ByteArray) (c:UInt8):List ByteArray:=Lib.splitB ⟨#[c]⟩ 0 (Lib.countB s ⟨#[c]⟩) s
def saB (s:ByteArray) (c:UInt8):List ByteArray:=Lib.splitB ⟨#[c]⟩ 1 (Lib.countB s ⟨#[c]⟩) s
theorem spB_body (x:(Int×Int×Int×Int×Int)):spB (cBody x) 44=[numB x.1.toNat,numB x.2.1.toNat,numB x.2.2.1.toNat,numB x.2.2.2.1.toNat,numB x.2.2.2.2.toNat]:=by
  apply map_toL_inj;rw [spB,splitB_cut,cut_body];rfl
theorem tailC_txt:∀l:List (Int×Int×Int×Int×Int),tailC 59 (l.map (fun x=>toL (cBody x))++[[]])=l.map (fun x=>toL (cT x))++[[]]
  | []=>rfl
  | x ::l=>by
    have ih:=tailC_txt l;have e:tailC 59 ((x::l).map (fun x=>toL (cBody x))++[[]])=(toL (cBody x)++[59])::tailC 59 (l.map (fun x=>toL (cBody x))++[[]]):=by
      cases l<;>rfl
    rw [e,ih];show _=toL (cT x)::_;rw [cT,toL_app,toL_one];rfl
theorem saB_ctx (l:List (Int×Int×Int×Int×Int)):saB (ctx l) 59=l.map cT++[.empty]:=by
  apply map_toL_inj;rw [saB,splitB_after,toL_ctx,cut_txF,tailC_txt,ql5,List.map_map];rfl
end Go.Proofs.YtmhaafinhpopmaaGreatDoor
