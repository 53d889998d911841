/- What functions compute. No condition. -/
import Derived.Test.YtmbbjhopngejaaaGreatDoorX22
set_option linter.unusedSimpArgs false
set_option linter.unusedVariables false
set_option linter.defProp false
namespace Go.Proofs.YtmbbjhopngejaaaGreatDoor
open Go Go.Vm
set_option maxHeartbeats 8000000
def chO (n:Int) (ss:List TS) (fl:List TA) (node:Int) (need:List Int):List Int:=(c7j n ss fl node need).2
def chN (n:Int) (ss:List TS) (fl:List TA) (node:Int) (need:List Int):List ByteArray:=c0j fl (chO n ss fl node need) fl.length
def chF (n:Int) (ss:List TS) (fl:List TA) (node:Int) (need:List Int):List TA:=b3p fl (chO n ss fl node need) fl.length
def chL (n:Int) (ss:List TS) (fl:List TA) (node:Int) (need:List Int):List Int:=(c7j n ss fl node need).1
structure SendOK (n:Int) (ss:List TS) (fl:List TA) (ins:List TI) (k:Nat) (x:TI) (need:List Int):Prop where
  ds:DsFacts n ss fl
  at_:ins[k]? =some x
  node:0≤x.2.1∧x.2.1 < n
  nd4:need.length=4∧∀v∈need,0≤v∧v≤6
  srt:x.2.2.2.Pairwise fun a b=>b2x a b=true
  dis:∀s∈chN n ss fl x.2.1 need,s ∉ x.2.2.2
  len:x.2.2.2.length≤12
  il:ins.length≤8
  nl:∀y∈ins,y.2.2.2.length≤12
section
variable {n:Int} {ss:List TS} {fl:List TA} {node:Int} {need:List Int}
theorem f8q (hd:DsFacts n ss fl) (hn:need.length=4∧∀v∈need,0≤v∧v≤6) {i:Int} (h:i∈chO n ss fl node need):∃(k:Nat) (a:TA),i=(k:Int)∧fl[k]? =some a∧k < fl.length∧b2k a=true∧0≤a.2.1∧a.2.1≤3:=by
  have hs:=(c1t (fl:=fl) hn (c2f fl (tmL n ss node))).2.2.2;obtain ⟨k,a,h1,h2,h3,h4⟩:=d0j (hs.subset h);have:=hd.hap a (qlb h3);rw [c3m,qld] at h4;exact ⟨k,a,h1,h3,h2,h4.1,this.1.1,this.1.2⟩
theorem f71 (hd:DsFacts n ss fl) (hn:need.length=4∧∀v∈need,0≤v∧v≤6):(chO n ss fl node need).length≤12:=
  ql6 (c1t (fl:=fl) hn (c2f fl (tmL n ss node))).2.2.1 (ql6 (d0c ..) hd.hfl)
theorem f3u (hd:DsFacts n ss fl):(chN n ss fl node need).length≤12:=ql6 (d1f ..) hd.hfl
theorem d6c:chN n ss fl node need=(c0y (chO n ss fl node need) fl.length).map (nameAt fl):=d7p fl _ _ (qlw _)
theorem d6l {s:ByteArray} (h:s∈chN n ss fl node need):∃(k:Nat) (a:TA),(k:Int)∈chO n ss fl node need∧fl[k]? =some a∧a.1=s:=by
  rw [d6c] at h;obtain ⟨i,hi,rfl⟩:=qmo.1 h;obtain ⟨j,hj,rfl⟩:=qlu.1 hi;obtain ⟨q,h1,h2,h3,_⟩:=c4g (qla hj);rw [h1];exact ⟨q,fl[q],h3,qla h2,by rw [nameAt,qli,qla h2]⟩
theorem f6s (hd:DsFacts n ss fl):(chN n ss fl node need).Nodup:=by
  rw [d6c,List.Nodup,List.pairwise_map];refine qly.2 fun i j hi hj hij=> ?_
  obtain ⟨p,p1,p2,_,p4⟩:=c4g (qla hi);obtain ⟨q,q1,q2,_,q4⟩:=c4g (qla hj);rw [p1,q1,nameAt,nameAt,qli,qli,qla p2,qla q2];have hlt:p < q:=by
    have h1:(c0y (chO n ss fl node need) fl.length)[i]∈(c0y (chO n ss fl node need) fl.length).take j:=qlu.2 ⟨i,by rw [qlr];omega,by rw [List.getElem_take]⟩;rw [q4,p1,c0y,List.mem_filter,qmo] at h1;obtain ⟨⟨z,hz,e⟩,_⟩:=h1;have:=qmb.1 hz;omega
  intro e;have hb:=qly.1 hd.hinc p q p2 q2 hlt;simp only [c4h] at hb;simp only at e;rw [e,b81] at hb;cases hb
theorem f23 {s:ByteArray}:∀{N:List ByteArray} {j:Nat},N.Nodup→N[j]? =some s→s ∉ N.take j
  | _,0,_,_=>by simp
  | [],j+1,_,h=>by simp at h
  | t::N,j+1,hn,h=>by
    have hn':=List.nodup_cons.1 hn;have h':N[j]? =some s:=by simpa using h
    rw [List.take_succ_cons,qlt];rintro (e | e)
    · subst e;exact hn'.1 (qlb h')
    · exact f23 hn'.2 h' e
theorem f3w {ins:List TI} {k:Nat} {x0 x1:Int} {x2:Bool} {x3:List ByteArray} (h:SendOK n ss fl ins k (x0,x1,x2,x3) need) {j:Nat} {s:ByteArray} (hj:(chN n ss fl x1 need)[j]? =some s) :
    s ∉ b4k x3 ((chN n ss fl x1 need).take j)∧(b4k x3 ((chN n ss fl x1 need).take j)).Pairwise (fun a b=>b2x a b=true)∧(b4k x3 ((chN n ss fl x1 need).take j)).length≤24∧(b9y k ins ((chN n ss fl x1 need).take j))[k]? =some (x0,x1,x2,b4k x3 ((chN n ss fl x1 need).take j))∧(b9y k ins ((chN n ss fl x1 need).take j)).length≤8∧(∀y∈b9y k ins ((chN n ss fl x1 need).take j),y.2.2.2.length≤24)∧
    (b9y k ins ((chN n ss fl x1 need).take j)).set k (x0,x1,x2,b7t (b4k x3 ((chN n ss fl x1 need).take j)) s)=b9y k ins ((chN n ss fl x1 need).take (j+1)):=by
  have hnd:=f6s (node:=x1) (need:=need) h.ds;have hsub:∀t∈(chN n ss fl x1 need).take j,t∈chN n ss fl x1 need:=fun t ht=>ql0 ht
  have hl:(b4k x3 ((chN n ss fl x1 need).take j)).length≤24:=by
    have h1:=f3u (node:=x1) (need:=need) h.ds;have h2:=h.len;simp only at h2;rw [d0f,qlr];omega
  refine ⟨fun q=> ?_,c4o h.srt ((List.take_sublist ..).nodup hnd) fun t ht=>h.dis t (hsub t ht),hl,d3l h.at_ _,by rw [d4q];exact h.il,fun y hy=> ?_,?_⟩
  · rcases b5c.1 q with q | q
    · exact h.dis s (qlb hj) q
    · exact f23 hnd hj q
  · rw [c15 h.at_] at hy
    rcases List.mem_or_eq_of_mem_set hy with q | q
    · have:=h.nl y q;omega
    · subst q;exact hl
  · have e:=d9s h.at_ ((chN n ss fl x1 need).take j) s
    rw [ql2,hj];exact e
end
end Go.Proofs.YtmbbjhopngejaaaGreatDoor
