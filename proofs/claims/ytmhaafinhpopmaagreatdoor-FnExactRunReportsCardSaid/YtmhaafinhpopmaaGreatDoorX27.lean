/- What functions compute. No condition. -/
import Derived.Test.YtmhaafinhpopmaaGreatDoorX26
set_option linter.unusedSimpArgs false
set_option linter.unusedVariables false
set_option linter.defProp false
namespace Go.Proofs.YtmhaafinhpopmaaGreatDoor
open Go Go.Vm
set_option maxHeartbeats 8000000
def itoaB (n:Int):ByteArray:=⟨(Lib.itoa n).toArray⟩
def rdV (s:ByteArray):Int:=match Lib.atoiAll s.data.toList with
  | .ok v=>v
  | .range=>Lib.atoiSat s.data.toList
  | _=>0
def rdB (s:ByteArray):Bool:=match Lib.atoiAll s.data.toList with
  | .ok v=>decide (itoaB v=s)
  | _=>false
def blk (s:ByteArray):Int:=Lib.indexByte s.data.toList 32
def cutA (s:ByteArray):ByteArray:=if 0≤blk s then s.extract 0 (blk s).toNat else s
def cutB (s:ByteArray):ByteArray:=if 0≤blk s then s.extract ((blk s).toNat+1) s.size else ⟨#[]⟩
theorem byteAt_of {s:ByteArray} {k:Nat} {c:UInt8} (h:s.data.toList[k]? =some c):byteAt s k=(c.toNat:Int):=by
  unfold byteAt;rw [qlk,h];rfl
theorem byteAt_get {s:ByteArray} {k:Nat} (hk:k < s.size):∃c:UInt8,s.data.toList[k]? =some c∧byteAt s k=(c.toNat:Int):=by
  have hl:k < s.data.toList.length:=by rw [Array.length_toList];exact hk
  exact ⟨_,qla hl,byteAt_of (qla hl)⟩
theorem byteAt_32 {s:ByteArray} {k:Nat} (hk:k < s.size) (h:s.data.toList[k]?≠some 32):byteAt s k≠32:=by
  obtain ⟨c,h1,h2⟩:=byteAt_get hk;intro e;rw [h2] at e;have h3:c.toNat=(32:UInt8).toNat:=by show c.toNat=32;omega
  rw [UInt8.toNat_inj.1 h3] at h1;exact h h1
theorem blk_case (s:ByteArray):(blk s=-1∧∀k,k < s.size→byteAt s k≠32)∨∃p:Nat,blk s=(p:Int)∧p < s.size∧byteAt s p=32∧∀k,k < p→byteAt s k≠32:=by
  have h0:=Lib.indexByte_ge s.data.toList 32;rcases Int.lt_or_le (blk s) 0 with h | h
  · left
    have h1:blk s=-1:=by unfold blk at h⊢;omega
    exact ⟨h1,fun k hk=>byteAt_32 hk (Lib.indexByte_none h1 k)⟩
  · right
    obtain ⟨p,hp⟩:=Int.eq_ofNat_of_zero_le h;obtain ⟨h1,h2⟩:=Lib.indexByte_some (l:=s.data.toList) (c:=32) (o:=p) hp;have hlt:p < s.size:=by
      have:=(qlc.1 h1).1
      rwa [Array.length_toList] at this
    exact ⟨p,hp,hlt,byteAt_of h1,fun k hk=>byteAt_32 (by omega) (h2 k hk)⟩
theorem split_none {s:ByteArray}:∀i,(∀k,k < i→byteAt s k≠32)→splitSt s 32 i=([],0)
  | 0,_=>rfl
  | i+1,h=>by rw [splitSt,if_neg (h i (by omega))];exact split_none i fun k hk=>h k (by omega)
theorem split_one {s:ByteArray} {p:Nat} (hp:byteAt s p=32) (h0:∀k,k < p→byteAt s k≠32):∀d,(∀k,p < k→k < p+1+d→byteAt s k≠32)→splitSt s 32 (p+1+d)=([s.extract 0 p],p+1)
  | 0,_=>by rw [Nat.add_zero,splitSt,if_pos hp,split_none p h0];rfl
  | d+1,h=>by
    rw [←Nat.add_assoc,splitSt,if_neg (h (p+1+d) (by omega) (by omega))];exact split_one hp h0 d fun k h1 h2=>h k h1 (by omega)
theorem split_pre {s:ByteArray} {p:Nat} (hp:byteAt s p=32) (h0:∀k,k < p→byteAt s k≠32):∀d,1≤(splitSt s 32 (p+1+d)).1.length
  | 0=>by rw [Nat.add_zero,splitSt,if_pos hp,split_none p h0];exact qlz _
  | d+1=>by
    rw [←Nat.add_assoc,splitSt];split
    · rw [qlr];have:=split_pre hp h0 d;omega
    · exact split_pre hp h0 d
theorem split_two {s:ByteArray} {p q:Nat} (hp:byteAt s p=32) (h0:∀k,k < p→byteAt s k≠32) (hq:p < q) (hb:byteAt s q=32):∀d,2≤(splitSt s 32 (q+1+d)).1.length
  | 0=>by
    obtain ⟨e,rfl⟩:∃e,q=p+1+e:=⟨q - (p+1),by omega⟩;rw [Nat.add_zero,splitSt,if_pos hb,qlr];have:=split_pre hp h0 e;simp only [List.length_singleton];omega
  | d+1=>by
    rw [←Nat.add_assoc,splitSt];split
    · rw [qlr];have:=split_two hp h0 hq hb d;omega
    · exact split_two hp h0 hq hb d
def words (s:ByteArray):List ByteArray:=(splitSt s 32 s.size).1++[s.extract (splitSt s 32 s.size).2 s.size]
theorem extract_byte {s:ByteArray} {a k:Nat} (h:a+k < s.size):byteAt (s.extract a s.size) k=byteAt s (a+k):=by
  unfold byteAt;rw [ByteArray.data_extract,Array.toList_extract,qlk,qlk,List.extract_eq_take_drop,List.getElem?_take,if_pos (by omega),List.getElem?_drop]
theorem extract_sz (s:ByteArray) (a:Nat):(s.extract a s.size).size=s.size - a:=by rw [ByteArray.size_extract,Nat.min_self]
theorem words_case (s:ByteArray):((words s).length=1∧cutB s=⟨#[]⟩)∨(words s=[cutA s,cutB s]∧∀k,k < (cutB s).size→byteAt (cutB s) k≠32)∨(3≤(words s).length∧∃k,k < (cutB s).size∧byteAt (cutB s) k=32):=by
  rcases blk_case s with ⟨h1,h2⟩ | ⟨p,h1,h2,h3,h4⟩
  · left
    refine ⟨?_,by rw [cutB,if_neg (by omega)]⟩;rw [words,split_none _ h2];rfl
  · have hA:cutA s=s.extract 0 p:=by rw [cutA,if_pos (by omega),h1,qlq]
    have hB:cutB s=s.extract (p+1) s.size:=by rw [cutB,if_pos (by omega),h1,qlq]
    right
    by_cases h5:∀k,p < k→k < s.size→byteAt s k≠32
    · left
      obtain ⟨d,hd⟩:∃d,s.size=p+1+d:=⟨s.size - (p+1),by omega⟩;have hs:=split_one h3 h4 d (by rw [←hd];exact h5);rw [←hd] at hs;refine ⟨by rw [words,hs,hA,hB];rfl,fun k hk=> ?_⟩;rw [hB,extract_sz] at hk;rw [hB,extract_byte (by omega)];exact h5 _ (by omega) (by omega)
    · right
      have h6:∃q,p < q∧q < s.size∧byteAt s q=32:=by
        apply Classical.byContradiction;intro hn;exact h5 fun k h7 h8 h9=>hn ⟨k,h7,h8,h9⟩
      obtain ⟨q,q1,q2,q3⟩:=h6;obtain ⟨d,hd⟩:∃d,s.size=q+1+d:=⟨s.size - (q+1),by omega⟩;refine ⟨?_,q - (p+1),by rw [hB,extract_sz];omega,?_⟩
      · have:=split_two h3 h4 q1 q3 d
        rw [←hd] at this;rw [words,qlr,List.length_singleton];omega
      · rw [hB,extract_byte (by omega),show p+1+(q - (p+1))=q by omega];exact q3
def digAt (s:ByteArray) (k:Nat):Bool:=decide (48≤byteAt s k) && decide (byteAt s k≤57)
def valD (s:ByteArray):Nat→Int
  | 0=>0
  | i+1=>10 * valD s i+(byteAt s i - 48)
def rdH (s:ByteArray):Bool:=(decide (1≤s.size) && decide (s.size≤6)) && !(decide (byteAt s 0=48) && decide (1 < s.size))
def rdN (s:ByteArray):Int:=if rdH s=true∧∀k,k < s.size→digAt s k=true then valD s s.size else -1
theorem dig_ok {s:ByteArray} {k:Nat} (h:digAt s k=true):48≤byteAt s k∧byteAt s k≤57:=by simpa [digAt] using h
theorem valD_bound {s:ByteArray}:∀i,(∀k,k < i→digAt s k=true)→0≤valD s i∧valD s i < 10 ^ i
  | 0,_=>⟨Int.le_refl _,Int.lt_succ 0⟩
  | i+1,h=>by
    have h1:=valD_bound i fun k hk=>h k (by omega)
    have h2:=dig_ok (h i (by omega));rw [valD,Int.pow_succ];omega
theorem valD_big {s:ByteArray} (h0:49≤byteAt s 0):∀i,(∀k,k < i+1→digAt s k=true)→(10:Int) ^ i≤valD s (i+1)
  | 0,_=>by simp only [valD];omega
  | i+1,h=>by
    have h1:=valD_big h0 i fun k hk=>h k (by omega)
    have h2:=dig_ok (h (i+1) (by omega));rw [valD,Int.pow_succ];omega
theorem pow_le6 {i:Nat} (h:i≤5):(10:Int) ^ i≤100000:=by
  have:i=0∨i=1∨i=2∨i=3∨i=4∨i=5:=by omega
  rcases this with rfl | rfl | rfl | rfl | rfl | rfl<;>decide
theorem byteAt_rng (s:ByteArray) (i:Nat):0≤byteAt s i∧byteAt s i≤255:=by
  unfold byteAt;have:=(s.data.toList.getD i 0).toNat_lt;omega
theorem dig_snoc {s:ByteArray} {i:Nat} (h:∀k,k < i→digAt s k=true) (hi:digAt s i=true):∀k,k < i+1→digAt s k=true:=fun k hk=>by
  rcases Nat.lt_succ_iff_lt_or_eq.1 hk with q | q
  · exact h k q
  · subst q;exact hi
theorem cut_sz (s:ByteArray) (h:s.size≤1048576):(cutA s).size≤1048576∧(cutB s).size≤1048576:=by
  constructor
  · rw [cutA];split
    · rw [ByteArray.size_extract];omega
    · exact h
  · rw [cutB];split
    · rw [ByteArray.size_extract];omega
    · exact qld _
def dg (n:Int):ByteArray:=⟨#[UInt8.ofNat (48+n.toNat)]⟩
theorem rdN_dg {s:ByteArray} (h:0≤rdN s∧rdN s≤5):s=dg (rdN s):=by
  have hr:rdH s=true∧∀k,k < s.size→digAt s k=true:=by
    apply Classical.byContradiction;intro hn;rw [rdN,if_neg hn] at h;omega
  have hv:rdN s=valD s s.size:=by rw [rdN,if_pos hr]
  have h1:=hr.1;simp only [rdH,Bool.and_eq_true,decide_eq_true_eq,Bool.not_eq_true',Bool.and_eq_false_imp,decide_eq_false_iff_not] at h1;have hs1:s.size=1:=by
    rcases qlt 1 s.size with q | q
    · exfalso
      have hd:=dig_ok (hr.2 0 (by omega));have hne:byteAt s 0≠48:=fun e=>h1.2 e q
      obtain ⟨j,hj⟩:∃j,s.size=(j+1)+1:=⟨s.size - 2,by omega⟩;have hb:=valD_big (s:=s) (by omega) (j+1) (by rw [←hj];exact hr.2);rw [←hj,Int.pow_succ] at hb;have hp:(0:Int) < 10 ^ j:=Int.pow_pos (by decide);omega
    · omega
  rw [hs1] at hv;have hv2:rdN s=byteAt s 0 - 48:=by rw [hv];simp only [valD];omega
  obtain ⟨c,hc1,hc2⟩:=byteAt_get (s:=s) (k:=0) (by omega);cases s with
  | mk d=>
    have hd:d.size=1:=hs1;have hdl:d.toList=[c]:=by
      have hl:d.toList.length=1:=by rw [Array.length_toList];exact hd
      obtain ⟨x,hx⟩:=List.length_eq_one_iff.1 hl;have:d.toList[0]? =some c:=hc1;rw [hx] at this⊢;simp at this;rw [this]
    have hda:d=#[c]:=by rw [←Array.toArray_toList (xs:=d),hdl]
    unfold dg;rw [hda,hda.symm];have he:(48+(rdN ⟨d⟩).toNat)=c.toNat:=by omega
    rw [he,UInt8.ofNat_toNat,hda]
theorem dg_all:∀n:Nat,n≤5→Lib.atoiAll (dg (n:Int)).data.toList=.ok (n:Int)∧itoaB (n:Int)=dg (n:Int)∧rdN (dg (n:Int))=(n:Int):=by
  intro n hn;have hd:(dg (n:Int)).size=1:=rfl;have hb:byteAt (dg (n:Int)) 0=48+n:=by
    unfold byteAt dg;rw [qlq];show (((UInt8.ofNat (48+n)).toNat:Nat):Int)=_;rw [UInt8.toNat_ofNat',Nat.mod_eq_of_lt (by omega)];omega
  have hdig:∀k,k < (dg (n:Int)).size→digAt (dg (n:Int)) k=true:=by
    intro k hk;have:k=0:=by omega
    subst this;simp only [digAt,hb,Bool.and_eq_true,decide_eq_true_eq];omega
  refine ⟨?_,?_,?_⟩
  · have:n=0∨n=1∨n=2∨n=3∨n=4∨n=5:=by omega
    rcases this with rfl | rfl | rfl | rfl | rfl | rfl<;>rfl
  · unfold itoaB dg Lib.itoa
    rw [if_neg (by omega),qlq,Lib.decDigits,dif_pos (by omega)]
  · rw [rdN,if_pos ⟨by simp [rdH,hd],hdig⟩,hd]
    simp only [valD];rw [hb];omega
theorem rd_dg {s:ByteArray} {n:Nat} (hn:n≤5) (h:s=dg (n:Int)):rdB s=true∧rdV s=(n:Int)∧rdN s=(n:Int):=by
  obtain ⟨h1,h2,h3⟩:=dg_all n hn;subst h;refine ⟨?_,?_,h3⟩
  · unfold rdB;rw [h1];simp only [h2,decide_true]
  · unfold rdV;rw [h1]
theorem rd_yes {s:ByteArray} (h:0≤rdN s∧rdN s≤5):rdB s=true∧rdV s=rdN s:=by
  obtain ⟨n,hn⟩:=Int.eq_ofNat_of_zero_le h.1;have hs:s=dg (n:Int):=by rw [←hn];exact rdN_dg h
  have:=rd_dg (by omega) hs;exact ⟨this.1,by rw [this.2.1,hn]⟩
theorem rd_no {s:ByteArray} (h:¬(0≤rdN s∧rdN s≤5)) (hb:rdB s=true):¬(0≤rdV s∧rdV s≤5):=by
  intro hv;unfold rdB at hb;cases hq:Lib.atoiAll s.data.toList with
  | ok v=>
    rw [hq] at hb;have hV:rdV s=v:=by unfold rdV;rw [hq]
    rw [hV] at hv;obtain ⟨n,rfl⟩:=Int.eq_ofNat_of_zero_le hv.1;have he:itoaB (n:Int)=s:=by simpa using hb
    have hs:s=dg (n:Int):=by rw [←he];exact (dg_all n (by omega)).2.1
    have:=rd_dg (by omega) hs;rw [this.2.2] at h;exact h hv
  | range=>rw [hq] at hb;cases hb
  | _=>rw [hq] at hb;cases hb
theorem dec_dig:∀(k n:Nat),n < k→∀b∈Lib.decDigits n,48≤b.toNat∧b.toNat≤57
  | 0,n,h=>by omega
  | k + 1,n,h=>by
    intro b hb;rw [Lib.decDigits] at hb;split at hb
    · rename_i q
      rw [List.mem_singleton] at hb;subst hb;rw [UInt8.toNat_ofNat',Nat.mod_eq_of_lt (by omega)];omega
    · rename_i q
      rcases qlo.1 hb with e | e
      · exact dec_dig k (n / 10) (by omega) b e
      · rw [List.mem_singleton] at e;subst e
        have:=Nat.mod_lt n (show 10 > 0 by decide);rw [UInt8.toNat_ofNat',Nat.mod_eq_of_lt (by omega)];omega
theorem itoa_no32 (v:Int):∀b∈Lib.itoa v,b.toNat≠32:=by
  intro b hb;unfold Lib.itoa at hb;split at hb
  · rcases qly.1 hb with e | e
    · subst e;decide
    · have:=dec_dig _ _ (Nat.lt_succ_self _) b e;omega
  · have:=dec_dig _ _ (Nat.lt_succ_self _) b hb;omega
theorem rd_blank {s:ByteArray} {k:Nat} (hk:k < s.size) (h:byteAt s k=32):rdB s=false∧s≠⟨#[97,116]⟩:=by
  refine ⟨?_,?_⟩
  · unfold rdB
    cases hq:Lib.atoiAll s.data.toList with
    | ok v=>
      apply decide_eq_false;intro e;obtain ⟨c,h1,h2⟩:=byteAt_get hk;rw [←e] at h1;have hm:c∈Lib.itoa v:=by simpa [itoaB] using qlb h1
      exact itoa_no32 v c hm (by omega)
    | range=>rfl
    | _=>rfl
  · intro e;subst e
    have:k=0∨k=1:=by have:k < 2:=hk;omega
    rcases this with rfl | rfl<;>exact absurd h (by decide)
theorem rd_empty:rdB ⟨#[]⟩=false∧(⟨#[]⟩:ByteArray)≠⟨#[97,116]⟩:=⟨rfl,by intro e;have:=congrArg ByteArray.size e;cases this⟩
section
open Go.RowKit
theorem tabsIn_below {w w1:World} {l:List (Nat×(Array Value→Prop))} (h:TabsIn w l) (hb:Below w.heap.size w w1):TabsIn w1 l:=fun p hp=>by
  obtain ⟨c,t,fr,e,q⟩:=h p hp;have hlt:p.1 < w.heap.size:=by
    rcases qlt p.1 w.heap.size with z | z
    · exact z
    · rw [Array.getElem?_eq_none z] at e;cases e
  exact ⟨c,t,fr,(hb.block p.1 hlt).trans e,q⟩
theorem con_str1B {P:Program} {f:FuncId} {a:ByteArray} {r:V} {rv:Value} (hf:∃fn,P.funcs[f]? =some fn∧(fn.name == "runtime.NumGoroutine")=false∧fn.body.isNone=false) (hr:∀w μ,Rep w μ r rv [])
    (h:∀w,TabsIn w (tabsOf P)→Calls P f #[.string a] w fun e w'=>e=.returned rv∧Below w.heap.size w w'):Con P f [.str a] [] r []:=by
  refine ⟨hf,fun w vals μ ow vis hi=> ?_⟩;have h0:vals.getD 0 undef=.string a:=by
    obtain ⟨bl,r0,_⟩:=hi.arg 0 _ rfl;generalize vals.getD 0 undef=x at r0⊢;cases r0;rfl
  have hs:vals.size=1:=hi.sz;have hv:vals=#[.string a]:=by
    apply Array.ext
    · simpa using hs
    · intro i hi1 hi2
      have hi3:i < 1:=by simpa using hi2
      have e:vals.getD i undef=vals[i]:=by simp [Array.getD,hi1]
      have:i=0:=by omega
      subst this;rw [←e,h0];rfl
  subst hv;refine (h w fun p hp=>(hi.tab p hp).2).mono ?_;rintro e w' ⟨rfl,hb⟩;have hold:∀b,b < w.heap.size→w'.heap[b]? =w.heap[b]? :=fun b hlt=>hb.block b hlt
  exact ⟨rv,μ,ow,rfl,⟨⟨[],hr _ _,by simp⟩,by simp,by simp,MLe.refl _,qlz _,hi.dom,fun b hb'=>(hi.owl b hb').keep (hold b (hi.owl b hb').lt),fun b hb=>.inl hb,
    ⟨hb.size,fun b hlt _=>hold b hlt,hb.os,hb.tape,hb.output,fun x hx=>by simp only [World.frozen?,hold x.block hx],fun _ hp=>nomatch hp⟩⟩⟩
theorem itoa_beq (l:List UInt8) (s:ByteArray):(l == s.toList)=decide ((⟨l.toArray⟩:ByteArray)=s):=by
  rw [ByteArray.toList_eq,Bool.eq_iff_iff,beq_iff_eq,decide_eq_true_eq];constructor
  · intro h;subst h;rfl
  · intro h;subst h;rfl
theorem rd_calls (s:ByteArray) (hs:s.size≤1048576) (w:World) (hw:TabsIn w (tabsOf Tryz.prog)):Calls Tryz.prog 90 #[.string s] w fun e w'=>e=.returned (.tuple #[.int .i64 (rdV s),.bool (rdB s)])∧Below w.heap.size w w':=by
  cases hq:Lib.atoiAll s.data.toList with
  | ok v=>
    have hV:rdV s=v:=by unfold rdV;rw [hq]
    have hB:rdB s=(Lib.itoa v == s.toList):=by unfold rdB;rw [hq,itoa_beq];rfl
    rw [hV,hB];obtain ⟨hv0,hv1⟩:=Lib.atoiAll_bounds hq;have cA:=Tryz.strconv_Atoi_ok s (by omega) v hq w
    go_enter Tryz.func90,Tryz.ntmps90
    go_wp2_with (go_at_call 151;go_fit cA;rintro e w1 ⟨rfl,hw1⟩)
    have hb1:Below w.heap.size w w1:=by
      rcases hw1 with rfl | ⟨t,rfl⟩
      · exact Below.refl _ _
      · exact Lib.bytesWorld_below _ _ _
    have hI:=Tryz.strconv_Itoa v hv0 hv1 w1 (tabIs_of rfl (tabsIn_below hw hb1))
    go_wp2_with (go_at_call 152;go_fit hI;rintro e w2 ⟨rfl,k2,os2,rfl⟩)
    go_ret2
    refine ⟨rfl,hb1.trans ⟨rfl,rfl,rfl,?_,fun b hb=>Sort.heap_grow_old (w1.drewN k2) os2 (ql0 hb hb1.size)⟩⟩;rw [Sort.size_grow];exact Nat.le_add_right _ _
  | range=>
    have hV:rdV s=Lib.atoiSat s.data.toList:=by unfold rdV;rw [hq]
    have hB:rdB s=false:=by unfold rdB;rw [hq]
    rw [hV,hB];obtain ⟨c,t,fr,hc1,te,pe,hc2⟩:=tabs_rng hw (g:=2) rfl;have hcell:w.cell? ⟨2,0,none⟩=some (.iface te pe):=by simp only [World.cell?,hc1];subst hc2;rfl
    have cA:=Tryz.strconv_Atoi_range s (by omega) hq _ w hcell (.inr ⟨te,pe,rfl⟩)
    go_enter Tryz.func90,Tryz.ntmps90
    go_wp2_with (go_at_call 151;go_fit cA;rintro e w1 ⟨N,rfl,_,_,hb1⟩)
    go_ret2
    exact ⟨rfl,hb1⟩
  | _=>
    have hV:rdV s=0:=by unfold rdV;rw [hq]
    have hB:rdB s=false:=by unfold rdB;rw [hq]
    rw [hV,hB];obtain ⟨c,t,fr,hc1,te,pe,hc2⟩:=tabs_syn hw (g:=1) rfl;have hcell:w.cell? ⟨1,0,none⟩=some (.iface te pe):=by simp only [World.cell?,hc1];subst hc2;rfl
    have cA:=Tryz.strconv_Atoi_syntax s (by omega) hq _ w hcell (.inr ⟨te,pe,rfl⟩)
    go_enter Tryz.func90,Tryz.ntmps90
    go_wp2_with (go_at_call 151;go_fit cA;rintro e w1 ⟨N,rfl,_,_,hb1⟩)
    go_ret2
    exact ⟨rfl,hb1⟩
theorem readNumber_con (s:ByteArray) (hs:s.size≤1048576):Con Tryz.prog 90 [.str s] [] (.tup [.int .i64 (rdV s),.bool (rdB s)]) []:=
  con_str1B ⟨_,Tryz.func90,rfl,rfl⟩ (fun w μ=>.tup _ _ [] (.cons _ _ [] _ _ [] (.int _ _) (.cons _ _ [] _ _ [] (.bool _) .nil))) (fun w hw=>rd_calls s hs w hw)
theorem slIdx32_con (s:ByteArray):Con Tryz.prog 192 [.str s,.str ⟨#[32]⟩] [] (.int .i64 (blk s)) []:=
  con_str2 ⟨_,Tryz.func192,rfl,rfl⟩ (fun w μ=>.int _ _) (fun w=>Tryz.stringslite_Index_one s 32 w)
end
def lineB (fl:List TA) (s:ByteArray):Bool:=decide ((words s).length=2) && (if cutB s=(⟨#[97,116]⟩:ByteArray) then arrB fl (cutA s) else inR (rdN (cutB s)) 0 5 && repB fl (cutA s) (rdN (cutB s)))
def lineF (fl:List TA) (ins:List TI) (s:ByteArray):List TA:=if cutB s=(⟨#[97,116]⟩:ByteArray) then arrF fl ins (cutA s) else chgF fl (cutA s) (rdN (cutB s))
def lineI (ins:List TI) (s:ByteArray):List TI:=if cutB s=(⟨#[97,116]⟩:ByteArray) then ins else repI ins (cutA s) (rdN (cutB s))
theorem inR_05 {x:Int}:inR x 0 5=true↔0≤x∧x≤5:=by simp [inR]
theorem line_at {s:ByteArray} (h:cutB s=(⟨#[97,116]⟩:ByteArray)):words s=[cutA s,cutB s]:=by
  rcases words_case s with ⟨_,h2⟩ | ⟨h1,_⟩ | ⟨_,k,h2,h3⟩
  · rw [h] at h2;exact absurd h2.symm rd_empty.2
  · exact h1
  · exact absurd h (rd_blank h2 h3).2
theorem lineB_at {fl:List TA} {s:ByteArray} (h:cutB s=(⟨#[97,116]⟩:ByteArray)):lineB fl s=arrB fl (cutA s):=by rw [lineB,line_at h,if_pos h];rfl
theorem rep_05 {fl:List TA} {s:ByteArray} {t:Int} (h:¬(0≤t∧t≤5)):repB fl s t=false:=by
  have:(decide (0≤t) && decide (t≤5))=false:=by
    rw [Bool.eq_false_iff];intro e;simp only [Bool.and_eq_true,decide_eq_true_eq] at e;exact h e
  rw [repB,chgB,this];simp
theorem line_num {fl:List TA} {s:ByteArray} (h:cutB s≠(⟨#[97,116]⟩:ByteArray)) (hb:rdB (cutB s)=true):lineB fl s=repB fl (cutA s) (rdV (cutB s))∧(lineB fl s=true→rdN (cutB s)=rdV (cutB s)):=by
  have hw:words s=[cutA s,cutB s]:=by
    rcases words_case s with ⟨_,h2⟩ | ⟨h1,_⟩ | ⟨_,k,h2,h3⟩
    · rw [h2,rd_empty.1] at hb;cases hb
    · exact h1
    · rw [(rd_blank h2 h3).1] at hb;cases hb
  rw [lineB,hw,if_neg h]
  by_cases hv:0≤rdN (cutB s)∧rdN (cutB s)≤5
  · rw [(rd_yes hv).2,inR_05.2 hv]
    exact ⟨rfl,fun _=>rfl⟩
  · have:inR (rdN (cutB s)) 0 5=false:=by rw [Bool.eq_false_iff];exact fun e=>hv (inR_05.1 e)
    rw [this,rep_05 (rd_no hv hb)];exact ⟨rfl,fun e=>nomatch e⟩
theorem line_no {fl:List TA} {s:ByteArray} (h:cutB s≠(⟨#[97,116]⟩:ByteArray)) (hb:rdB (cutB s)=false):lineB fl s=false:=by
  rw [lineB,if_neg h];have:inR (rdN (cutB s)) 0 5=false:=by
    rw [Bool.eq_false_iff];intro e;rw [(rd_yes (inR_05.1 e)).1] at hb;cases hb
  rw [this];simp
abbrev RunT:=List TA×List TI×List Int
def runStep (st:RunT) (i:Nat) (s:ByteArray):RunT:=if lineB st.1 s=true then (lineF st.1 st.2.1 s,lineI st.2.1 s,st.2.2) else (st.1,st.2.1,st.2.2++[(i:Int)])
def runTo (fl:List TA) (ins:List TI) (L:List ByteArray):Nat→RunT
  | 0=>(fl,ins,[])
  | i+1=>match L[i]? with | some s=>runStep (runTo fl ins L i) i s | none=>runTo fl ins L i
theorem run_next {fl:List TA} {ins:List TI} {L:List ByteArray} {i:Nat} {s:ByteArray} (h:L[i]? =some s):runTo fl ins L (i+1)=runStep (runTo fl ins L i) i s:=by rw [runTo,h]
theorem line_keep {n:Int} {ss:List TS} {fl:List TA} {ins:List TI} {ws:List TW} {s:ByteArray} (hB:ctlB n ss fl ins ws=true) (h:lineB fl s=true):ctlB n ss (lineF fl ins s) (lineI ins s) ws=true:=by
  rw [lineB,qlf] at h;have h2:=h.2
  by_cases e:cutB s=(⟨#[97,116]⟩:ByteArray)
  · rw [if_pos e] at h2
    rw [lineF,lineI,if_pos e,if_pos e];exact arr_keep hB h2
  · rw [if_neg e,qlf] at h2
    rw [lineF,lineI,if_neg e,if_neg e];exact rep_keep hB h2.2
structure RunInv (n:Int) (ss:List TS) (ws:List TW) (i:Nat) (st:RunT):Prop where
  ok:ctlB n ss st.1 st.2.1 ws=true
  len:st.2.2.length≤i
theorem run_inv {n:Int} {ss:List TS} {fl:List TA} {ins:List TI} {ws:List TW} {L:List ByteArray} (hB:ctlB n ss fl ins ws=true):∀i,RunInv n ss ws i (runTo fl ins L i)
  | 0=>⟨hB,qlz _⟩
  | i + 1=>by
    have h:=run_inv (L:=L) hB i;rw [runTo];split
    · rename_i s hs
      rw [runStep];split
      · rename_i q
        exact ⟨line_keep h.ok q,Nat.le_succ_of_le h.len⟩
      · refine ⟨h.ok,?_⟩
        simp only [List.length_append,List.length_singleton];have:=h.len;omega
    · exact ⟨h.ok,Nat.le_succ_of_le h.len⟩
def runB (n:Int) (ss:List TS) (fl:List TA) (ins:List TI) (ws:List TW) (L:List ByteArray):Bool:=ctlB n ss fl ins ws && decide ((L.length:Int)≤40)
theorem ctl_sizesR {n:Int} {ss:List TS} {fl:List TA} {ins:List TI} {ws:List TW} (hB:ctlB n ss fl ins ws=true):fl.length≤1048576∧(∀t∈fl,t.1.size≤9223372036854775807)∧ins.length≤1048576∧(∀x∈ins,x.2.2.2.length≤1048576):=by
  have h:=(ctl_iff ..).1 hB;have h1:=h.fl12;have h2:=h.inc.len;refine ⟨by omega,fun t ht=> ?_,by omega,fun x hx=> ?_⟩
  · have:=h.ap t ht
    simp only [apOK,Bool.and_eq_true] at this;have h3:=this.1.1.1.1;simp only [nameB,Bool.and_eq_true,decide_eq_true_eq] at h3;omega
  · have:=(h.inc.each x hx).len;omega
end Go.Proofs.YtmhaafinhpopmaaGreatDoor
