/- What functions compute. No condition. -/
import Derived.Test.YtaefoaghpehbpaaGreatDoorUz
import Derived.Test.YtaefoaghpehbpaaGreatDoorUty
import Derived.Test.YtaefoaghpehbpaaGreatDoorUmG
import Derived.Test.YtaefoaghpehbpaaGreatDoorX13
import Derived.Test.YtaefoaghpehbpaaGreatDoorX14
import Derived.Test.YtaefoaghpehbpaaGreatDoorX1
import Derived.Test.YtaefoaghpehbpaaGreatDoorX4
import Derived.Test.YtaefoaghpehbpaaGreatDoorX10
set_option linter.unusedSimpArgs false
set_option linter.unusedVariables false
set_option linter.defProp false
namespace Go.Proofs.YtaefoaghpehbpaaGreatDoor
open Go Go.Vm
def aText (x:(ByteArray×Int×Int×Int×Int)):ByteArray:=x.1++(⟨#[47]⟩:ByteArray)++numB x.2.1.toNat++(⟨#[47]⟩:ByteArray)++numB x.2.2.1.toNat++(⟨#[47]⟩:ByteArray)++numB x.2.2.2.1.toNat++(⟨#[47]⟩:ByteArray)++numB x.2.2.2.2.toNat++(⟨#[59]⟩:ByteArray)
def aTexts (l:List (ByteArray×Int×Int×Int×Int)):ByteArray:=l.foldl (fun s x=>s++aText x) .empty
def iHead (x:(Int×Int×Bool×List ByteArray)):ByteArray:=numB x.1.toNat++(⟨#[64]⟩:ByteArray)++numB x.2.1.toNat
def iText (x:(Int×Int×Bool×List ByteArray)):ByteArray:=(if x.2.2.1=true then iHead x++(⟨#[33]⟩:ByteArray) else iHead x)++(⟨#[58]⟩:ByteArray)++joinB x.2.2.2 (⟨#[44]⟩:ByteArray)
def wText (x:(Int×List Int)):ByteArray:=numB x.1.toNat++(⟨#[42]⟩:ByteArray)++catB (numS x.2)++(⟨#[59]⟩:ByteArray)
def wTexts (s:ByteArray) (l:List (Int×List Int)):ByteArray:=l.foldl (fun s x=>s++wText x) s
def cBase (fl:List (ByteArray×Int×Int×Int×Int)) (ins:List (Int×Int×Bool×List ByteArray)):ByteArray:=aTexts fl++(⟨#[124]⟩:ByteArray)++joinB (ins.map iText) (⟨#[32]⟩:ByteArray)++(⟨#[124]⟩:ByteArray)
def cText (fl:List (ByteArray×Int×Int×Int×Int)) (ins:List (Int×Int×Bool×List ByteArray)) (ws:List (Int×List Int)):ByteArray:=wTexts (cBase fl ins) ws
def cTextR (b:Bool) (fl:List (ByteArray×Int×Int×Int×Int)) (ins:List (Int×Int×Bool×List ByteArray)) (ws:List (Int×List Int)):ByteArray:=if b=true then cText fl ins ws else .empty
theorem aTexts_step {l:List (ByteArray×Int×Int×Int×Int)} {i:Nat} {x:(ByteArray×Int×Int×Int×Int)} (h:l[i]? =some x):aTexts (l.take (i+1))=aTexts (l.take i)++aText x:=by
  rw [aTexts,List.take_add_one,h,List.foldl_append];rfl
theorem wTexts_step {s:ByteArray} {l:List (Int×List Int)} {i:Nat} {x:(Int×List Int)} (h:l[i]? =some x):wTexts s (l.take (i+1))=wTexts s (l.take i)++wText x:=by
  rw [wTexts,List.take_add_one,h,List.foldl_append];rfl
theorem inter_snoc (sep x:List UInt8):∀l:List (List UInt8),l≠[]→Lib.join (l++[x]) sep=Lib.join l sep++sep++x
  | [],h=>absurd rfl h
  | [a],_=>by simp [Lib.join,List.intercalate]
  | a::b::l,_=>by
    have ih:=inter_snoc sep x (b::l) (by simp)
    simp [Lib.join,List.intercalate] at ih⊢
    exact ih
theorem joinB_step {ws:List ByteArray} {sep x:ByteArray} {i:Nat} (h:ws[i]? =some x) (h0:0 < i):joinB (ws.take (i+1)) sep=joinB (ws.take i) sep++sep++x:=by
  have hl:=(List.getElem?_eq_some_iff.1 h).1
  rw [List.take_add_one,h]
  unfold joinB
  apply ByteArray.ext
  have hne:(ws.take i).map (fun w=>w.data.toList)≠[]:=by
    intro e
    have:=congrArg List.length e
    rw [List.length_map,List.length_take,List.length_nil] at this
    omega
  have:=inter_snoc sep.data.toList x.data.toList _ hne
  simp only [Option.toList_some,List.map_append,List.map_cons,List.map_nil]
  rw [this]
  simp [ByteArray.data_append]
theorem joinB_zero {ws:List ByteArray} {sep x:ByteArray} (h:ws[0]? =some x):joinB (ws.take 1) sep=x:=by
  rw [show (1:Nat)=0+1 from rfl,List.take_add_one,h]
  unfold joinB Lib.join
  apply ByteArray.ext
  simp [List.intercalate]
theorem joinB_nil (sep:ByteArray):joinB [] sep=.empty:=by
  unfold joinB Lib.join
  apply ByteArray.ext
  simp [List.intercalate]
theorem joinB_two2 (a b s:ByteArray):joinB [a,b] s=a++s++b:=joinB_two a b s
theorem joinB_four (a b c d s:ByteArray):joinB [a,b,c,d] s=a++s++b++s++c++s++d:=by
  unfold joinB Lib.join
  apply ByteArray.ext
  simp [List.intercalate,ByteArray.data_append]
theorem a_join (n k p c t s e:ByteArray):n++s++joinB [k,p,c,t] s++e=n++s++k++s++p++s++c++s++t++e:=by
  rw [joinB_four];simp only [ByteArray.append_assoc]
structure CtlTxt (fl:List (ByteArray×Int×Int×Int×Int)) (ins:List (Int×Int×Bool×List ByteArray)) (ws:List (Int×List Int)):Prop where
  fls:fl.length≤12
  ap:∀a∈fl,a.1.size≤6∧(0≤a.2.1∧a.2.1 < 100)∧(0≤a.2.2.1∧a.2.2.1 < 100)∧(0≤a.2.2.2.1∧a.2.2.2.1 < 100)∧(0≤a.2.2.2.2∧a.2.2.2.2 < 100)
  i8:ins.length≤8
  inc:∀x∈ins,(0≤x.1∧x.1 < 1000)∧(0≤x.2.1∧x.2.1 < 100)∧x.2.2.2.length≤12∧∀s∈x.2.2.2,s.size≤6
  w8:ws.length≤8
  want:∀w∈ws,(0≤w.1∧w.1 < 1000)∧w.2.length=4∧∀x∈w.2,0≤x∧x < 100
theorem name_size {s:ByteArray} (h:nameB s=true):s.size≤6:=by
  simp only [nameB,Bool.and_eq_true,decide_eq_true_eq] at h
  omega
theorem ctl_txt {n:Int} {ss:List (Int×Int×Int)} {fl:List (ByteArray×Int×Int×Int×Int)} {ins:List (Int×Int×Bool×List ByteArray)} {ws:List (Int×List Int)} (h:ctlB n ss fl ins ws=true):CtlTxt fl ins ws:=by
  have hc:=ctl_facts h
  have hw:=want_need hc
  have hf:fleetB fl=true:=by
    simp only [ctlB,ctlH,dsB,Bool.and_eq_true] at h
    exact h.1.1.1.1.1.1.2
  have hi:=hc.ins8
  rw [incsB,Bool.and_eq_true,decide_eq_true_eq] at hi
  have hinc:∀x∈ins,(0≤x.1∧x.1 < 1000)∧(0≤x.2.1∧x.2.1 < 100)∧x.2.2.2.length≤12∧∀s∈x.2.2.2,s.size≤6:=by
    intro x hx
    obtain ⟨i,hil,rfl⟩:=List.getElem_of_mem hx
    have hp:=List.all_eq_true.1 hi.1 i (List.mem_range.2 hil)
    rw [incP,List.getElem?_eq_getElem hil] at hp
    simp only [incOK,Bool.and_eq_true,decide_eq_true_eq,Bool.not_eq_true',decide_eq_false_iff_not] at hp
    refine ⟨by omega,by omega,by omega,fun s hs=>name_size (chain_ok hp.1.1.2 s hs)⟩
  refine ⟨hc.ds.hfl,fun a ha=> ?_,by omega,hinc,hc.ws8,fun w hw2=> ?_⟩
  · have:=fleet_ok hf a ha
    simp only [apOK,Bool.and_eq_true,decide_eq_true_eq] at this
    exact ⟨name_size this.1.1.1.1,by omega,by omega,by omega,by omega⟩
  · obtain ⟨k,x,hk1,hk2,hk3⟩:=openF_at (hc.want w hw2).1
    have:=(hinc x (List.mem_of_getElem? hk1)).1
    have h4:=hw w hw2
    refine ⟨by rw [←hk2.1];exact this,h4.1,fun x hx=> ?_⟩
    have:=h4.2 x hx
    omega
theorem num2 {n:Int} (h:0≤n∧n < 100):(numB n.toNat).size≤2:=numB_size 2 _ (by omega) (by omega)
theorem num3 {n:Int} (h:0≤n∧n < 1000):(numB n.toNat).size≤3:=numB_size 3 _ (by omega) (by omega)
theorem one_size (b:UInt8):(ByteArray.mk #[b]).size=1:=rfl
theorem aText_size {x:(ByteArray×Int×Int×Int×Int)} (h:x.1.size≤6∧(0≤x.2.1∧x.2.1 < 100)∧(0≤x.2.2.1∧x.2.2.1 < 100)∧(0≤x.2.2.2.1∧x.2.2.2.1 < 100)∧(0≤x.2.2.2.2∧x.2.2.2.2 < 100)):(aText x).size≤19:=by
  have h1:=num2 h.2.1
  have h2:=num2 h.2.2.1
  have h3:=num2 h.2.2.2.1
  have h4:=num2 h.2.2.2.2
  simp only [aText,ByteArray.size_append,one_size]
  omega
theorem names_size {l:List ByteArray} {c:ByteArray} (hc:c.size=1) (h1:l.length≤12) (h2:∀s∈l,s.size≤6):(joinB l c).size≤84:=by
  have:=joinB_size l c 6 h2
  rw [hc] at this
  omega
theorem iHead_size {x:(Int×Int×Bool×List ByteArray)} (h0:0≤x.1∧x.1 < 1000) (h1:0≤x.2.1∧x.2.1 < 100):(iHead x).size≤6:=by
  have:=num3 h0
  have:=num2 h1
  simp only [iHead,ByteArray.size_append,one_size]
  omega
theorem iText_size {x:(Int×Int×Bool×List ByteArray)} (h:(0≤x.1∧x.1 < 1000)∧(0≤x.2.1∧x.2.1 < 100)∧x.2.2.2.length≤12∧∀s∈x.2.2.2,s.size≤6):(iText x).size≤100:=by
  have h1:=iHead_size h.1 h.2.1
  have h2:=names_size (c:=(⟨#[44]⟩:ByteArray)) rfl h.2.2.1 h.2.2.2
  simp only [iText,ByteArray.size_append,one_size]
  split<;>(try simp only [ByteArray.size_append,one_size])<;>omega
theorem iTexts_size {ins:List (Int×Int×Bool×List ByteArray)} (h8:ins.length≤8) (h:∀x∈ins,(0≤x.1∧x.1 < 1000)∧(0≤x.2.1∧x.2.1 < 100)∧x.2.2.2.length≤12∧∀s∈x.2.2.2,s.size≤6):(joinB (ins.map iText) (⟨#[32]⟩:ByteArray)).size≤900:=by
  have:=joinB_size (ins.map iText) (⟨#[32]⟩:ByteArray) 100 (by
    intro w hw
    obtain ⟨x,hx,rfl⟩:=List.mem_map.1 hw
    exact iText_size (h x hx))
  rw [List.length_map,show (⟨#[32]⟩:ByteArray).size=1 from rfl] at this
  omega
theorem cat4_size {l:List Int} (h4:l.length=4) (h:∀x∈l,0≤x∧x < 100):(catB (numS l)).size≤36:=by
  have:=joinB_size (numS l) .empty 9 (numS_size fun n hn=>by have:=h n hn;omega)
  rw [joinB_cat] at this
  have e:(numS l).length=l.length:=by simp [numS]
  have e2:ByteArray.empty.size=0:=rfl
  rw [e,e2] at this
  omega
theorem aTexts_size {fl:List (ByteArray×Int×Int×Int×Int)} (h12:fl.length≤12) (h:∀a∈fl,a.1.size≤6∧(0≤a.2.1∧a.2.1 < 100)∧(0≤a.2.2.1∧a.2.2.1 < 100)∧(0≤a.2.2.2.1∧a.2.2.2.1 < 100)∧(0≤a.2.2.2.2∧a.2.2.2.2 < 100)):(aTexts fl).size≤228:=by
  have key:∀(l:List (ByteArray×Int×Int×Int×Int)) (s:ByteArray),(∀a∈l,(aText a).size≤19)→(l.foldl (fun s x=>s++aText x) s).size≤s.size+19 * l.length:=by
    intro l
    induction l with
    | nil=>intro s _;exact Nat.le_refl _
    | cons x l ih=>
      intro s hl
      have h1:=ih (s++aText x) (fun a ha=>hl a (List.mem_cons_of_mem _ ha))
      have h2:=hl x (List.mem_cons_self ..)
      rw [ByteArray.size_append] at h1
      rw [List.foldl_cons,List.length_cons]
      omega
  have:=key fl .empty (fun a ha=>aText_size (h a ha))
  have e:ByteArray.empty.size=0:=rfl
  rw [e] at this
  rw [aTexts]
  omega
theorem cat_step2 {l:List Int} {i:Nat} {x:Int} (h:l[i]? =some x):catB (numS (l.take (i+1)))=catB (numS (l.take i))++numB x.toNat:=by
  rw [List.take_add_one,h,numS,List.map_append,catB,List.foldl_append];rfl
set_option maxHeartbeats 1000000 in
theorem apText_con (fl:List (ByteArray×Int×Int×Int×Int)) (hl:fl.length≤12) (hap:∀a∈fl,a.1.size≤6∧(0≤a.2.1∧a.2.1 < 100)∧(0≤a.2.2.1∧a.2.2.1 < 100)∧(0≤a.2.2.2.1∧a.2.2.2.1 < 100)∧(0≤a.2.2.2.2∧a.2.2.2.2 < 100)):Con Tryz.prog 56 [.sl (fl.map (fun t:ByteArray×Int×Int×Int×Int=>V.agg [V.str t.1,V.int .i64 t.2.1,V.int .i64 t.2.2.1,V.int .i64 t.2.2.2.1,V.int .i64 t.2.2.2.2]))] [] (.str (aTexts fl)) []:=by
 refine v_con [.tmp 2] [] Tryz.func56 rfl rfl rfl (by simp [Tryz.ntmps56]) ?_
 intro Q0 n0 r0
 simp only [Tryz.ntmps56,envFrom,Nat.reduceAdd]
 have T:=Tys.mk (And.intro Ty.t3 (And.intro Ty.t9 (And.intro Ty.t38 Ty.t76)))
 have F:=Fc.mk True.intro
 refine v_seqR [0] ?_;intro K1 k1;refine zAssign ⟨?_⟩;refine k1 _ ?_;refine zk ⟨?_⟩;refine v_seqR [0,3] ?_;intro K2 k2;refine zAssign ⟨?_⟩;refine k2 _ ?_;refine zk ⟨?_⟩;refine v_seq ?_;intro Q3 n3 e3 r3;refine v_seqR [3,6,7,8] ?_;intro K4 k4;refine zq15 ⟨?_⟩;refine k4 _ ?_;refine zk ⟨?_⟩;refine v_block ?_;intro Q5 n5 x5 e5 r5;refine v_loop (fun p=>⟨[(3,.str p.2),(6,.sl (fl.map (fun t:ByteArray×Int×Int×Int×Int=>V.agg [V.str t.1,V.int .i64 t.2.1,V.int .i64 t.2.2.1,V.int .i64 t.2.2.2.1,V.int .i64 t.2.2.2.2]))),(7,.int .i64 fl.length),(8,.int .i64 (Nat.cast p.1))],[],false,39,0⟩) (fun p=>p.1≤fl.length∧p.2.size≤19 * p.1∧p.2=aTexts (fl.take p.1)) (fun p=>fl.length - p.1) ((0,.empty):Nat×ByteArray) ?_ ?_ ?_
 ·refine weak_of [3,6,7,8] ?_
  simp only [keep_mk,keepE_nil,keepE_cons,look_cons,look_nil,Nat.reduceEqDiff,reduceIte]
  rfl
 ·exact ⟨Nat.zero_le _,Nat.le_refl _,rfl⟩
 ·rintro ⟨i,st⟩ hok6 Q6 n6 e6 r6
  obtain ⟨hi1,hsz,hR⟩:=hok6
  simp only [] at hi1 hsz hR⊢
  refine v_seqR [3,6,7,8,9] ?_;intro K7 k7;refine zBinOp ⟨?_⟩;refine k7 _ ?_;refine zk ⟨?_⟩;refine v_seq ?_;intro Q8 n8 e8 r8;refine v_condS _ rfl ?_ ?_
  ·intro hc0
   have hlt:i < fl.length:=by omega
   obtain ⟨⟨x0,x1,x2,x3,x4⟩,hx⟩:∃x:ByteArray×Int×Int×Int×Int,fl[i]? =some x:=⟨fl[i]'(by omega),List.getElem?_eq_getElem (by omega)⟩
   have hax:=hap _ (List.mem_of_getElem? hx)
   have has:=aText_size hax
   simp only [] at hax
   have hst:=aTexts_step hx
   obtain ⟨hn0,hn1,hn2,hn3,hn4⟩:=hax
   have hs1:=num2 hn1
   have hs2:=num2 hn2
   have hs3:=num2 hn3
   have hs4:=num2 hn4
   have hz0:(⟨#[47]⟩:ByteArray).size=1:=rfl
   have hz1:(⟨#[59]⟩:ByteArray).size=1:=rfl
   have hz2:(⟨#[64]⟩:ByteArray).size=1:=rfl
   have hz3:(⟨#[33]⟩:ByteArray).size=1:=rfl
   have hz4:(⟨#[58]⟩:ByteArray).size=1:=rfl
   have hz5:(⟨#[44]⟩:ByteArray).size=1:=rfl
   have hz6:(⟨#[42]⟩:ByteArray).size=1:=rfl
   have hz7:(⟨#[124]⟩:ByteArray).size=1:=rfl
   have hz8:(⟨#[32]⟩:ByteArray).size=1:=rfl
   refine v_skip ?_;refine n8 _ _ (weak_keep [3,6,7,8] _) ?_;refine zk ⟨?_⟩;refine v_seq ?_;intro Q10 n10 e10 r10;refine v_block ?_;intro Q11 n11 x11 e11 r11;refine v_seqR [3,5,6,7,8] ?_;intro K12 k12
   have F:=Fc.mk (And.intro (fun f=>getD_map (f:=f) hx) (And.intro @ByteArray.size_append (And.intro hz0 (And.intro hz1 (And.intro hz2 (And.intro hz3 (And.intro hz4 (And.intro hz5 (And.intro hz6 (And.intro hz7 hz8))))))))))
   refine zq31 ⟨?_⟩;refine k12 _ ?_;refine zk ⟨?_⟩;refine v_draw (by kernel_rfl) ?_;intro K13 q13 k13
   show aAny _ _ _ _ 26 (Array.replicate 26 false) _
   refine zdMove q13 true 0 12 ?_;refine zdFieldAddr q13 true 1 13 ?_;refine zdLoad q13 true 2 14 ?_;refine zdBinOpW q13 true 3 15 ?_;refine zdFieldAddr q13 true 4 16 ?_;refine zdLoad q13 true 5 17 ?_;refine zdFieldAddr q13 true 9 21 ?_;refine zdLoad q13 true 10 22 ?_;refine zdFieldAddr q13 true 14 26 ?_;refine zdLoad q13 true 15 27 ?_;refine zdFieldAddr q13 true 19 31 ?_;refine zdLoad q13 true 20 32 ?_;refine zoc 6 (l1Num_con x1 (by omega)) ⟨?_⟩;refine zdBinOpW q13 true 7 19 ?_;refine zdBinOpW q13 true 8 20 ?_;refine zoc 11 (l1Num_con x2 (by omega)) ⟨?_⟩;refine zdBinOpW q13 true 12 24 ?_;refine zdBinOpW q13 true 13 25 ?_;refine zoc 16 (l1Num_con x3 (by omega)) ⟨?_⟩;refine zdBinOpW q13 true 17 29 ?_;refine zdBinOpW q13 true 18 30 ?_;refine zoc 21 (l1Num_con x4 (by omega)) ⟨?_⟩;refine zdBinOpW q13 true 22 34 ?_;refine zdBinOpW q13 true 23 35 ?_;refine zdBinOpW q13 true 24 36 ?_;refine zoAssign 25 ⟨?_⟩;refine aAny_done (by kernel_rfl) ?_;refine k13 _ ?_;refine n11 _ ?_;refine n10 _ _ (weak_keep [3,6,7,8] _) ?_;refine zk ⟨?_⟩;refine v_region ?_;intro K14 k14;refine zq5 ⟨?_⟩;refine k14 _ ?_;refine n6 _ (i+1,st++(x0++(⟨#[47]⟩:ByteArray)++numB x1.toNat++(⟨#[47]⟩:ByteArray)++numB x2.toNat++(⟨#[47]⟩:ByteArray)++numB x3.toNat++(⟨#[47]⟩:ByteArray)++numB x4.toNat++(⟨#[59]⟩:ByteArray))) ?_ ?_ ?_
   ·refine weak_bothS [3,6,7,8] [] ⟨?_⟩
    rfl
   ·have hxe:aText (x0,x1,x2,x3,x4)=(x0++(⟨#[47]⟩:ByteArray)++numB x1.toNat++(⟨#[47]⟩:ByteArray)++numB x2.toNat++(⟨#[47]⟩:ByteArray)++numB x3.toNat++(⟨#[47]⟩:ByteArray)++numB x4.toNat++(⟨#[59]⟩:ByteArray)):=rfl
    exact ⟨hlt,by show ByteArray.size (st++_)≤19 * (i+1);rw [ByteArray.size_append,←hxe];omega,by show st++_=_;rw [hst,←hR,hxe]⟩
   ·show _ < _;show fl.length - (i+1) < fl.length - i;omega
  ·intro hc0
   refine v_exit ?_;refine e8 _ _ ?_;refine e6 _ _ ?_;refine x5 _ ?_;refine n3 _ _ (weak_keep [3] _) ?_;refine zk ⟨?_⟩;refine v_seqR [2] ?_;intro K15 k15;refine zq8 ⟨?_⟩;refine k15 _ ?_;refine zk ⟨?_⟩;refine v_ret ?_;refine r0 _ ?_;refine zf ⟨?_⟩
   have hend:st=aTexts fl:=by rw [hR,List.take_of_length_le (by omega)]
   exact ret_pure rfl (by rw [hend]) (.inl rfl)
set_option maxHeartbeats 1000000 in
theorem fleetText_con (fl:List (ByteArray×Int×Int×Int×Int)) (hl:fl.length≤12) (hap:∀a∈fl,a.1.size≤6∧(0≤a.2.1∧a.2.1 < 100)∧(0≤a.2.2.1∧a.2.2.1 < 100)∧(0≤a.2.2.2.1∧a.2.2.2.1 < 100)∧(0≤a.2.2.2.2∧a.2.2.2.2 < 100)):Con Tryz.prog 66 [.sl (fl.map (fun t:ByteArray×Int×Int×Int×Int=>V.agg [V.str t.1,V.int .i64 t.2.1,V.int .i64 t.2.2.1,V.int .i64 t.2.2.2.1,V.int .i64 t.2.2.2.2]))] [] (.str (aTexts fl)) []:=by
 refine v_con [.tmp 2] [] Tryz.func66 rfl rfl rfl (by simp [Tryz.ntmps66]) ?_
 intro Q0 n0 r0
 simp only [Tryz.ntmps66,envFrom,Nat.reduceAdd]
 have T:=Tys.mk (And.intro Ty.t3 (And.intro Ty.t9 (And.intro Ty.t38 (And.intro Ty.t49 Ty.t76))))
 have F:=Fc.mk True.intro
 refine v_seqR [0] ?_;intro K1 k1;refine zAssign ⟨?_⟩;refine k1 _ ?_;refine zk ⟨?_⟩;refine v_seqR [0,3] ?_;intro K2 k2;refine zAssign ⟨?_⟩;refine k2 _ ?_;refine zk ⟨?_⟩;refine v_seq ?_;intro Q3 n3 e3 r3;refine v_seqR [3,6,7,8] ?_;intro K4 k4;refine zq15 ⟨?_⟩;refine k4 _ ?_;refine zk ⟨?_⟩;refine v_block ?_;intro Q5 n5 x5 e5 r5;refine v_loop (fun p=>⟨[(3,.str p.2),(6,.sl (fl.map (fun t:ByteArray×Int×Int×Int×Int=>V.agg [V.str t.1,V.int .i64 t.2.1,V.int .i64 t.2.2.1,V.int .i64 t.2.2.2.1,V.int .i64 t.2.2.2.2]))),(7,.int .i64 fl.length),(8,.int .i64 (Nat.cast p.1))],[],false,31,0⟩) (fun p=>p.1≤fl.length∧p.2.size≤19 * p.1∧p.2=aTexts (fl.take p.1)) (fun p=>fl.length - p.1) ((0,.empty):Nat×ByteArray) ?_ ?_ ?_
 ·refine weak_of [3,6,7,8] ?_
  simp only [keep_mk,keepE_nil,keepE_cons,look_cons,look_nil,Nat.reduceEqDiff,reduceIte]
  rfl
 ·exact ⟨Nat.zero_le _,Nat.le_refl _,rfl⟩
 ·rintro ⟨i,st⟩ hok6 Q6 n6 e6 r6
  obtain ⟨hi1,hsz,hR⟩:=hok6
  simp only [] at hi1 hsz hR⊢
  refine v_seqR [3,6,7,8,9] ?_;intro K7 k7;refine zBinOp ⟨?_⟩;refine k7 _ ?_;refine zk ⟨?_⟩;refine v_seq ?_;intro Q8 n8 e8 r8;refine v_condS _ rfl ?_ ?_
  ·intro hc0
   have hlt:i < fl.length:=by omega
   obtain ⟨⟨x0,x1,x2,x3,x4⟩,hx⟩:∃x:ByteArray×Int×Int×Int×Int,fl[i]? =some x:=⟨fl[i]'(by omega),List.getElem?_eq_getElem (by omega)⟩
   have hax:=hap _ (List.mem_of_getElem? hx)
   have has:=aText_size hax
   simp only [] at hax
   have hst:=aTexts_step hx
   obtain ⟨hn0,hn1,hn2,hn3,hn4⟩:=hax
   have hs1:=num2 hn1
   have hs2:=num2 hn2
   have hs3:=num2 hn3
   have hs4:=num2 hn4
   have hz0:(⟨#[47]⟩:ByteArray).size=1:=rfl
   have hz1:(⟨#[59]⟩:ByteArray).size=1:=rfl
   have hz2:(⟨#[64]⟩:ByteArray).size=1:=rfl
   have hz3:(⟨#[33]⟩:ByteArray).size=1:=rfl
   have hz4:(⟨#[58]⟩:ByteArray).size=1:=rfl
   have hz5:(⟨#[44]⟩:ByteArray).size=1:=rfl
   have hz6:(⟨#[42]⟩:ByteArray).size=1:=rfl
   have hz7:(⟨#[124]⟩:ByteArray).size=1:=rfl
   have hz8:(⟨#[32]⟩:ByteArray).size=1:=rfl
   have hjs:(joinB [numB x1.toNat,numB x2.toNat,numB x3.toNat,numB x4.toNat] (⟨#[47]⟩:ByteArray)).size≤19:=by
    rw [joinB_four];simp only [ByteArray.size_append,hz0];omega
   refine v_skip ?_;refine n8 _ _ (weak_keep [3,6,7,8] _) ?_;refine zk ⟨?_⟩;refine v_seq ?_;intro Q10 n10 e10 r10;refine v_block ?_;intro Q11 n11 x11 e11 r11;refine v_seqR [3,5,6,7,8] ?_;intro K12 k12
   have F:=Fc.mk (And.intro (fun f=>getD_map (f:=f) hx) (And.intro @ByteArray.size_append (And.intro hz0 (And.intro hz1 (And.intro hz2 (And.intro hz3 (And.intro hz4 (And.intro hz5 (And.intro hz6 (And.intro hz7 hz8))))))))))
   refine zq31 ⟨?_⟩;refine k12 _ ?_;refine zk ⟨?_⟩;refine v_draw (by kernel_rfl) ?_;intro K13 q13 k13
   show aAny _ _ _ _ 18 (Array.replicate 18 false) _
   refine zdMove q13 true 0 12 ?_;refine zdFieldAddr q13 true 1 13 ?_;refine zdLoad q13 true 2 14 ?_;refine zdBinOpW q13 true 3 15 ?_;refine zdFieldAddr q13 true 4 16 ?_;refine zdLoad q13 true 5 17 ?_;refine zdFieldAddr q13 true 6 18 ?_;refine zdLoad q13 true 7 19 ?_;refine zdFieldAddr q13 true 8 20 ?_;refine zdLoad q13 true 9 21 ?_;refine zdFieldAddr q13 true 10 22 ?_;refine zdLoad q13 true 11 23 ?_;refine zoBuildSlice 12 ⟨?_⟩;refine zoc 13 ((by have q:=joinNumbers_con [x1,x2,x3,x4] (⟨#[47]⟩:ByteArray) (by simp) (by simp;omega) (by decide);rw [show numS [x1,x2,x3,x4]=[numB x1.toNat,numB x2.toNat,numB x3.toNat,numB x4.toNat] from rfl] at q;exact q)) ⟨?_⟩;refine zdBinOpW q13 true 14 26 ?_;refine zdBinOpW q13 true 15 27 ?_;refine zdBinOpW q13 true 16 28 ?_;refine zoAssign 17 ⟨?_⟩;refine aAny_done (by kernel_rfl) ?_;refine k13 _ ?_;refine n11 _ ?_;refine n10 _ _ (weak_keep [3,6,7,8] _) ?_;refine zk ⟨?_⟩;refine v_region ?_;intro K14 k14;refine zq5 ⟨?_⟩;refine k14 _ ?_;refine n6 _ (i+1,st++(x0++(⟨#[47]⟩:ByteArray)++joinB [numB x1.toNat,numB x2.toNat,numB x3.toNat,numB x4.toNat] (⟨#[47]⟩:ByteArray)++(⟨#[59]⟩:ByteArray))) ?_ ?_ ?_
   ·refine weak_bothS [3,6,7,8] [] ⟨?_⟩
    rfl
   ·have hxe:aText (x0,x1,x2,x3,x4)=(x0++(⟨#[47]⟩:ByteArray)++joinB [numB x1.toNat,numB x2.toNat,numB x3.toNat,numB x4.toNat] (⟨#[47]⟩:ByteArray)++(⟨#[59]⟩:ByteArray)):=(a_join _ _ _ _ _ _ _).symm
    exact ⟨hlt,by show ByteArray.size (st++_)≤19 * (i+1);rw [ByteArray.size_append,←hxe];omega,by show st++_=_;rw [hst,←hR,hxe]⟩
   ·show _ < _;show fl.length - (i+1) < fl.length - i;omega
  ·intro hc0
   refine v_exit ?_;refine e8 _ _ ?_;refine e6 _ _ ?_;refine x5 _ ?_;refine n3 _ _ (weak_keep [3] _) ?_;refine zk ⟨?_⟩;refine v_seqR [2] ?_;intro K15 k15;refine zq8 ⟨?_⟩;refine k15 _ ?_;refine zk ⟨?_⟩;refine v_ret ?_;refine r0 _ ?_;refine zf ⟨?_⟩
   have hend:st=aTexts fl:=by rw [hR,List.take_of_length_le (by omega)]
   exact ret_pure rfl (by rw [hend]) (.inl rfl)
set_option maxHeartbeats 1000000 in
theorem ixText_con (x0:Int) (x1:Int) (x2:Bool) (x3:List ByteArray) (hn:(0≤x0∧x0 < 1000)∧(0≤x1∧x1 < 100)∧x3.length≤12∧∀s∈x3,s.size≤6):Con Tryz.prog 57 [.agg [V.int .i64 x0,V.int .i64 x1,V.bool x2,V.sl (x3.map V.str)]] [] (.str (iText (x0,x1,x2,x3))) []:=by
 obtain ⟨hn0,hn1,hn2,hn3⟩:=hn
 have hs0:=num3 hn0
 have hs1:=num2 hn1
 have hjz:=names_size (c:=(⟨#[44]⟩:ByteArray)) rfl hn2 hn3
 have hz0:(⟨#[47]⟩:ByteArray).size=1:=rfl
 have hz1:(⟨#[59]⟩:ByteArray).size=1:=rfl
 have hz2:(⟨#[64]⟩:ByteArray).size=1:=rfl
 have hz3:(⟨#[33]⟩:ByteArray).size=1:=rfl
 have hz4:(⟨#[58]⟩:ByteArray).size=1:=rfl
 have hz5:(⟨#[44]⟩:ByteArray).size=1:=rfl
 have hz6:(⟨#[42]⟩:ByteArray).size=1:=rfl
 have hz7:(⟨#[124]⟩:ByteArray).size=1:=rfl
 have hz8:(⟨#[32]⟩:ByteArray).size=1:=rfl
 have hbz:ByteArray.size ((if x2=true then iHead (x0,x1,x2,x3)++(⟨#[33]⟩:ByteArray) else iHead (x0,x1,x2,x3))++(⟨#[58]⟩:ByteArray))≤8:=by
  have:=iHead_size (x:=(x0,x1,x2,x3)) hn0 hn1
  split<;>simp only [ByteArray.size_append,hz4,hz3]<;>omega
 refine v_con [.tmp 2] [] Tryz.func57 rfl rfl rfl (by simp [Tryz.ntmps57]) ?_
 intro Q0 n0 r0
 simp only [Tryz.ntmps57,envFrom,Nat.reduceAdd]
 have T:=Tys.mk (And.intro Ty.t3 (And.intro Ty.t4 (And.intro Ty.t9 (And.intro Ty.t47 Ty.t78))))
 have F:=Fc.mk True.intro
 refine v_seqR [1] ?_;intro K1 k1;refine zq9 ⟨?_⟩;refine k1 _ ?_;refine zk ⟨?_⟩;refine v_seq ?_;intro Q2 n2 e2 r2;refine v_draw (by kernel_rfl) ?_;intro K3 q3 k3
 show aAny _ _ _ _ 9 (Array.replicate 9 false) _
 refine zdFieldAddr q3 true 0 6 ?_;refine zdLoad q3 true 1 7 ?_;refine zdFieldAddr q3 true 4 10 ?_;refine zdLoad q3 true 5 11 ?_;refine zoc 2 (l1Num_con x0 (by omega)) ⟨?_⟩;refine zdBinOpW q3 true 3 9 ?_;refine zoc 6 (l1Num_con x1 (by omega)) ⟨?_⟩;refine zdBinOpW q3 true 7 13 ?_;refine zoAssign 8 ⟨?_⟩;refine aAny_done (by kernel_rfl) ?_;refine k3 _ ?_;refine n2 _ _ (weak_keep [1,3] _) ?_;refine zk ⟨?_⟩;refine v_seq ?_;intro Q4 n4 e4 r4;refine v_seqR [1,3,15] ?_;intro K5 k5;refine zq1 ⟨?_⟩;refine k5 _ ?_;refine zk ⟨?_⟩;refine v_condS _ rfl ?_ ?_
 ·intro hc0
  refine v_region ?_;intro K7 k7;refine zq6 ⟨?_⟩;refine k7 _ ?_;refine n4 _ _ (weak_keep [1,3] _) ?_;refine zk ⟨?_⟩;refine v_seqR [1,3] ?_;intro K8 k8;refine zq6 ⟨?_⟩;refine k8 _ ?_;refine zk ⟨?_⟩;refine v_seq ?_;intro Q9 n9 e9 r9;refine v_seqR [3,21,22,23] ?_;intro K10 k10;refine zq18 ⟨?_⟩;refine k10 _ ?_;refine zk ⟨?_⟩;refine v_block ?_;intro Q11 n11 x11 e11 r11;refine v_loop (fun p=>⟨[(3,.str p.2),(21,.sl (x3.map V.str)),(22,.int .i64 x3.length),(23,.int .i64 (Nat.cast p.1))],[],false,37,0⟩) (fun p=>p.1≤x3.length∧p.2.size≤8+7 * p.1∧p.2=(if x2=true then iHead (x0,x1,x2,x3)++(⟨#[33]⟩:ByteArray) else iHead (x0,x1,x2,x3))++(⟨#[58]⟩:ByteArray)++joinB (x3.take p.1) (⟨#[44]⟩:ByteArray)) (fun p=>x3.length - p.1) ((0,(if x2=true then iHead (x0,x1,x2,x3)++(⟨#[33]⟩:ByteArray) else iHead (x0,x1,x2,x3))++(⟨#[58]⟩:ByteArray)):Nat×ByteArray) ?_ ?_ ?_
  ·refine weak_bothS [3,21,22,23] [] ⟨?_⟩
   rw [if_pos hc0];rfl
  ·exact ⟨Nat.zero_le _,by show ByteArray.size ((if x2=true then iHead (x0,x1,x2,x3)++(⟨#[33]⟩:ByteArray) else iHead (x0,x1,x2,x3))++(⟨#[58]⟩:ByteArray))≤_;exact hbz,by show (if x2=true then iHead (x0,x1,x2,x3)++(⟨#[33]⟩:ByteArray) else iHead (x0,x1,x2,x3))++(⟨#[58]⟩:ByteArray)=_;rw [List.take_zero,joinB_nil,ByteArray.append_empty]⟩
  ·rintro ⟨i,st⟩ hok12 Q12 n12 e12 r12
   obtain ⟨hi1,hsz,hR⟩:=hok12
   simp only [] at hi1 hsz hR⊢
   refine v_seqR [3,21,22,23,24] ?_;intro K13 k13;refine zBinOp ⟨?_⟩;refine k13 _ ?_;refine zk ⟨?_⟩;refine v_seq ?_;intro Q14 n14 e14 r14;refine v_condS _ rfl ?_ ?_
   ·intro hc1
    have hlt:i < x3.length:=by omega
    obtain ⟨s,hx⟩:∃s,x3[i]? =some s:=⟨_,List.getElem?_eq_getElem hlt⟩
    have hsx:=hn3 s (List.mem_of_getElem? hx)
    refine v_skip ?_;refine n14 _ _ (weak_keep [3,21,22,23] _) ?_;refine zk ⟨?_⟩;refine v_seq ?_;intro Q16 n16 e16 r16;refine v_block ?_;intro Q17 n17 x17 e17 r17;refine v_seqR [3,4,5,21,22,23] ?_;intro K18 k18
    have F:=Fc.mk (fun f=>getD_map (f:=f) hx)
    refine zq41 ⟨?_⟩;refine k18 _ ?_;refine zk ⟨?_⟩;refine v_seq ?_;intro Q19 n19 e19 r19;refine v_seqR [3,5,21,22,23,29] ?_;intro K20 k20;refine zq13 ⟨?_⟩;refine k20 _ ?_;refine zk ⟨?_⟩;refine v_condS _ rfl ?_ ?_
    ·intro hc2
     refine v_region ?_;intro K22 k22;refine zq6 ⟨?_⟩;refine k22 _ ?_;refine n19 _ _ (weak_keep [3,5,21,22,23] _) ?_;refine zk ⟨?_⟩;refine v_region ?_;intro K23 k23;refine zq2 ⟨?_⟩;refine zq3 ⟨?_⟩;refine k23 _ ?_;refine n17 _ ?_;refine n16 _ _ (weak_keep [3,21,22,23] _) ?_;refine zk ⟨?_⟩;refine v_region ?_;intro K24 k24;refine zq5 ⟨?_⟩;refine k24 _ ?_;refine n12 _ (i+1,st++(⟨#[44]⟩:ByteArray)++s) ?_ ?_ ?_
     ·refine weak_bothS [3,21,22,23] [] ⟨?_⟩
      rfl
     ·exact ⟨hlt,by show ByteArray.size (st++(⟨#[44]⟩:ByteArray)++s)≤8+7 * (i+1);simp only [ByteArray.size_append,hz5];omega,by show st++(⟨#[44]⟩:ByteArray)++s=_;rw [hR,joinB_step hx (by omega)];simp only [ByteArray.append_assoc]⟩
     ·show _ < _;show x3.length - (i+1) < x3.length - i;omega
    ·intro hc2
     refine v_skip ?_;refine n19 _ _ (weak_keep [3,5,21,22,23] _) ?_;refine zk ⟨?_⟩;refine v_region ?_;intro K25 k25;refine zq2 ⟨?_⟩;refine zq3 ⟨?_⟩;refine k25 _ ?_;refine n17 _ ?_;refine n16 _ _ (weak_keep [3,21,22,23] _) ?_;refine zk ⟨?_⟩;refine v_region ?_;intro K26 k26;refine zq5 ⟨?_⟩;refine k26 _ ?_;refine n12 _ (i+1,st++s) ?_ ?_ ?_
     ·refine weak_bothS [3,21,22,23] [] ⟨?_⟩
      rfl
     ·have h00:i=0:=by omega
      subst h00
      exact ⟨hlt,by show ByteArray.size (st++s)≤8+7 * 1;simp only [ByteArray.size_append];omega,by show st++s=_;rw [hR,joinB_zero hx,List.take_zero,joinB_nil,ByteArray.append_empty]⟩
     ·show _ < _;show x3.length - (i+1) < x3.length - i;omega
   ·intro hc1
    refine v_exit ?_;refine e14 _ _ ?_;refine e12 _ _ ?_;refine x11 _ ?_;refine n9 _ _ (weak_keep [3] _) ?_;refine zk ⟨?_⟩;refine v_seqR [2] ?_;intro K27 k27;refine zq8 ⟨?_⟩;refine k27 _ ?_;refine zk ⟨?_⟩;refine v_ret ?_;refine r0 _ ?_;refine zf ⟨?_⟩
    have hend:st=iText (x0,x1,x2,x3):=by rw [hR,List.take_of_length_le (by omega)];rfl
    exact ret_pure rfl (by rw [hend]) (.inl rfl)
 ·intro hc0
  refine v_skip ?_;refine n4 _ _ (weak_keep [1,3] _) ?_;refine zk ⟨?_⟩;refine v_seqR [1,3] ?_;intro K28 k28;refine zq6 ⟨?_⟩;refine k28 _ ?_;refine zk ⟨?_⟩;refine v_seq ?_;intro Q29 n29 e29 r29;refine v_seqR [3,21,22,23] ?_;intro K30 k30;refine zq18 ⟨?_⟩;refine k30 _ ?_;refine zk ⟨?_⟩;refine v_block ?_;intro Q31 n31 x31 e31 r31;refine v_loop (fun p=>⟨[(3,.str p.2),(21,.sl (x3.map V.str)),(22,.int .i64 x3.length),(23,.int .i64 (Nat.cast p.1))],[],false,37,0⟩) (fun p=>p.1≤x3.length∧p.2.size≤8+7 * p.1∧p.2=(if x2=true then iHead (x0,x1,x2,x3)++(⟨#[33]⟩:ByteArray) else iHead (x0,x1,x2,x3))++(⟨#[58]⟩:ByteArray)++joinB (x3.take p.1) (⟨#[44]⟩:ByteArray)) (fun p=>x3.length - p.1) ((0,(if x2=true then iHead (x0,x1,x2,x3)++(⟨#[33]⟩:ByteArray) else iHead (x0,x1,x2,x3))++(⟨#[58]⟩:ByteArray)):Nat×ByteArray) ?_ ?_ ?_
  ·refine weak_bothS [3,21,22,23] [] ⟨?_⟩
   rw [if_neg (by simp [hc0])];rfl
  ·exact ⟨Nat.zero_le _,by show ByteArray.size ((if x2=true then iHead (x0,x1,x2,x3)++(⟨#[33]⟩:ByteArray) else iHead (x0,x1,x2,x3))++(⟨#[58]⟩:ByteArray))≤_;exact hbz,by show (if x2=true then iHead (x0,x1,x2,x3)++(⟨#[33]⟩:ByteArray) else iHead (x0,x1,x2,x3))++(⟨#[58]⟩:ByteArray)=_;rw [List.take_zero,joinB_nil,ByteArray.append_empty]⟩
  ·rintro ⟨i,st⟩ hok32 Q32 n32 e32 r32
   obtain ⟨hi1,hsz,hR⟩:=hok32
   simp only [] at hi1 hsz hR⊢
   refine v_seqR [3,21,22,23,24] ?_;intro K33 k33;refine zBinOp ⟨?_⟩;refine k33 _ ?_;refine zk ⟨?_⟩;refine v_seq ?_;intro Q34 n34 e34 r34;refine v_condS _ rfl ?_ ?_
   ·intro hc3
    have hlt:i < x3.length:=by omega
    obtain ⟨s,hx⟩:∃s,x3[i]? =some s:=⟨_,List.getElem?_eq_getElem hlt⟩
    have hsx:=hn3 s (List.mem_of_getElem? hx)
    refine v_skip ?_;refine n34 _ _ (weak_keep [3,21,22,23] _) ?_;refine zk ⟨?_⟩;refine v_seq ?_;intro Q36 n36 e36 r36;refine v_block ?_;intro Q37 n37 x37 e37 r37;refine v_seqR [3,4,5,21,22,23] ?_;intro K38 k38
    have F:=Fc.mk (fun f=>getD_map (f:=f) hx)
    refine zq41 ⟨?_⟩;refine k38 _ ?_;refine zk ⟨?_⟩;refine v_seq ?_;intro Q39 n39 e39 r39;refine v_seqR [3,5,21,22,23,29] ?_;intro K40 k40;refine zq13 ⟨?_⟩;refine k40 _ ?_;refine zk ⟨?_⟩;refine v_condS _ rfl ?_ ?_
    ·intro hc4
     refine v_region ?_;intro K42 k42;refine zq6 ⟨?_⟩;refine k42 _ ?_;refine n39 _ _ (weak_keep [3,5,21,22,23] _) ?_;refine zk ⟨?_⟩;refine v_region ?_;intro K43 k43;refine zq2 ⟨?_⟩;refine zq3 ⟨?_⟩;refine k43 _ ?_;refine n37 _ ?_;refine n36 _ _ (weak_keep [3,21,22,23] _) ?_;refine zk ⟨?_⟩;refine v_region ?_;intro K44 k44;refine zq5 ⟨?_⟩;refine k44 _ ?_;refine n32 _ (i+1,st++(⟨#[44]⟩:ByteArray)++s) ?_ ?_ ?_
     ·refine weak_bothS [3,21,22,23] [] ⟨?_⟩
      rfl
     ·exact ⟨hlt,by show ByteArray.size (st++(⟨#[44]⟩:ByteArray)++s)≤8+7 * (i+1);simp only [ByteArray.size_append,hz5];omega,by show st++(⟨#[44]⟩:ByteArray)++s=_;rw [hR,joinB_step hx (by omega)];simp only [ByteArray.append_assoc]⟩
     ·show _ < _;show x3.length - (i+1) < x3.length - i;omega
    ·intro hc4
     refine v_skip ?_;refine n39 _ _ (weak_keep [3,5,21,22,23] _) ?_;refine zk ⟨?_⟩;refine v_region ?_;intro K45 k45;refine zq2 ⟨?_⟩;refine zq3 ⟨?_⟩;refine k45 _ ?_;refine n37 _ ?_;refine n36 _ _ (weak_keep [3,21,22,23] _) ?_;refine zk ⟨?_⟩;refine v_region ?_;intro K46 k46;refine zq5 ⟨?_⟩;refine k46 _ ?_;refine n32 _ (i+1,st++s) ?_ ?_ ?_
     ·refine weak_bothS [3,21,22,23] [] ⟨?_⟩
      rfl
     ·have h00:i=0:=by omega
      subst h00
      exact ⟨hlt,by show ByteArray.size (st++s)≤8+7 * 1;simp only [ByteArray.size_append];omega,by show st++s=_;rw [hR,joinB_zero hx,List.take_zero,joinB_nil,ByteArray.append_empty]⟩
     ·show _ < _;show x3.length - (i+1) < x3.length - i;omega
   ·intro hc3
    refine v_exit ?_;refine e34 _ _ ?_;refine e32 _ _ ?_;refine x31 _ ?_;refine n29 _ _ (weak_keep [3] _) ?_;refine zk ⟨?_⟩;refine v_seqR [2] ?_;intro K47 k47;refine zq8 ⟨?_⟩;refine k47 _ ?_;refine zk ⟨?_⟩;refine v_ret ?_;refine r0 _ ?_;refine zf ⟨?_⟩
    have hend:st=iText (x0,x1,x2,x3):=by rw [hR,List.take_of_length_le (by omega)];rfl
    exact ret_pure rfl (by rw [hend]) (.inl rfl)
set_option maxHeartbeats 1000000 in
theorem incidentText_con (x0:Int) (x1:Int) (x2:Bool) (x3:List ByteArray) (hn:(0≤x0∧x0 < 1000)∧(0≤x1∧x1 < 100)∧x3.length≤12∧∀s∈x3,s.size≤6):Con Tryz.prog 65 [.agg [V.int .i64 x0,V.int .i64 x1,V.bool x2,V.sl (x3.map V.str)]] [] (.str (iText (x0,x1,x2,x3))) []:=by
 obtain ⟨hn0,hn1,hn2,hn3⟩:=hn
 have hs0:=num3 hn0
 have hs1:=num2 hn1
 have hjz:=names_size (c:=(⟨#[44]⟩:ByteArray)) rfl hn2 hn3
 have hz0:(⟨#[47]⟩:ByteArray).size=1:=rfl
 have hz1:(⟨#[59]⟩:ByteArray).size=1:=rfl
 have hz2:(⟨#[64]⟩:ByteArray).size=1:=rfl
 have hz3:(⟨#[33]⟩:ByteArray).size=1:=rfl
 have hz4:(⟨#[58]⟩:ByteArray).size=1:=rfl
 have hz5:(⟨#[44]⟩:ByteArray).size=1:=rfl
 have hz6:(⟨#[42]⟩:ByteArray).size=1:=rfl
 have hz7:(⟨#[124]⟩:ByteArray).size=1:=rfl
 have hz8:(⟨#[32]⟩:ByteArray).size=1:=rfl
 have hhz:=iHead_size (x:=(x0,x1,x2,x3)) hn0 hn1
 refine v_con [.tmp 2] [] Tryz.func65 rfl rfl rfl (by simp [Tryz.ntmps65]) ?_
 intro Q0 n0 r0
 simp only [Tryz.ntmps65,envFrom,Nat.reduceAdd]
 have T:=Tys.mk (And.intro Ty.t3 (And.intro Ty.t4 (And.intro Ty.t9 (And.intro Ty.t47 (And.intro Ty.t49 Ty.t78)))))
 have F:=Fc.mk True.intro
 refine v_seqR [1] ?_;intro K1 k1;refine zq9 ⟨?_⟩;refine k1 _ ?_;refine zk ⟨?_⟩;refine v_seqR [1,3] ?_;intro K2 k2;refine zq19 ⟨?_⟩;refine zBuildSlice ⟨?_⟩;refine zc ((by have q:=joinNumbers_con [x0,x1] (⟨#[64]⟩:ByteArray) (by simp) (by simp;omega) (by decide);rw [show numS [x0,x1]=[numB x0.toNat,numB x1.toNat] from rfl,joinB_two] at q;exact q:Con _ _ _ _ (.str (iHead (x0,x1,x2,x3))) _)) ⟨?_⟩;refine zAssign ⟨?_⟩;refine k2 _ ?_;refine zk ⟨?_⟩;refine v_seq ?_;intro Q3 n3 e3 r3;refine v_seqR [1,3,11] ?_;intro K4 k4;refine zq1 ⟨?_⟩;refine k4 _ ?_;refine zk ⟨?_⟩;refine v_condS _ rfl ?_ ?_
 ·intro hc0
  refine v_region ?_;intro K6 k6;refine zq6 ⟨?_⟩;refine k6 _ ?_;refine n3 _ _ (weak_keep [1,3] _) ?_;refine zk ⟨?_⟩;refine v_seqR [2] ?_;intro K7 k7;refine zMove ⟨?_⟩;refine zBinOpW ⟨?_⟩;refine zq1 ⟨?_⟩;refine zc (join_con x3 (⟨#[44]⟩:ByteArray) (by omega) (fun s h=>by have:=hn3 s h;omega) (by decide)) ⟨?_⟩;refine zq3 ⟨?_⟩;refine k7 _ ?_;refine zk ⟨?_⟩;refine v_ret ?_;refine r0 _ ?_;refine zf ⟨?_⟩
  exact ret_pure rfl (by rw [iText,if_pos hc0]<;>first | rfl | simp only [ByteArray.append_assoc]) (.inl rfl)
 ·intro hc0
  refine v_skip ?_;refine n3 _ _ (weak_keep [1,3] _) ?_;refine zk ⟨?_⟩;refine v_seqR [2] ?_;intro K8 k8;refine zMove ⟨?_⟩;refine zBinOpW ⟨?_⟩;refine zq1 ⟨?_⟩;refine zc (join_con x3 (⟨#[44]⟩:ByteArray) (by omega) (fun s h=>by have:=hn3 s h;omega) (by decide)) ⟨?_⟩;refine zq3 ⟨?_⟩;refine k8 _ ?_;refine zk ⟨?_⟩;refine v_ret ?_;refine r0 _ ?_;refine zf ⟨?_⟩
  exact ret_pure rfl (by rw [iText,if_neg (by simp [hc0])]<;>first | rfl | simp only [ByteArray.append_assoc]) (.inl rfl)
set_option maxRecDepth 100000 in
set_option maxHeartbeats 1000000 in
theorem implCText_con (n:Int) (ss:List (Int×Int×Int)) (fl:List (ByteArray×Int×Int×Int×Int)) (ins:List (Int×Int×Bool×List ByteArray)) (ws:List (Int×List Int)) (hs:ss.length≤1048576) (hl:fl.length≤1048576) (hls:∀t∈fl,t.1.size≤9223372036854775807) (hil:ins.length≤1048576) (hin:∀x∈ins,x.2.2.2.length≤1048576) (his:∀x∈ins,∀s∈x.2.2.2,s.size≤9223372036854775807) (hwl:ws.length≤1048576) (hwn:∀x∈ws,x.2.length≤1048576):Con Tryz.prog 11 [.agg [.int .i64 n,.sl (ss.map (fun t:Int×Int×Int=>V.agg [V.int .i64 t.1,V.int .i64 t.2.1,V.int .i64 t.2.2]))],.agg [.sl (fl.map (fun t:ByteArray×Int×Int×Int×Int=>V.agg [V.str t.1,V.int .i64 t.2.1,V.int .i64 t.2.2.1,V.int .i64 t.2.2.2.1,V.int .i64 t.2.2.2.2])),.sl (ins.map (fun t:Int×Int×Bool×List ByteArray=>V.agg [V.int .i64 t.1,V.int .i64 t.2.1,V.bool t.2.2.1,V.sl (t.2.2.2.map V.str)])),.sl (ws.map (fun t:Int×List Int=>V.agg [V.int .i64 t.1,V.sl (t.2.map (V.int .i64))]))]] [] (.tup [.str (cTextR (ctlB n ss fl ins ws) fl ins ws),.bool (ctlB n ss fl ins ws)]) []:=by
 refine v_con [.tmp 4,.tmp 5] [] Tryz.func11 rfl rfl rfl (by simp [Tryz.ntmps11]) ?_
 intro Q0 n0 r0
 simp only [Tryz.ntmps11,envFrom,Nat.reduceAdd]
 have T:=Tys.mk (And.intro Ty.t3 (And.intro Ty.t4 (And.intro Ty.t9 (And.intro Ty.t34 (And.intro Ty.t36 (And.intro Ty.t38 (And.intro Ty.t39 (And.intro Ty.t40 (And.intro Ty.t42 (And.intro Ty.t47 (And.intro Ty.t49 (And.intro Ty.t76 (And.intro Ty.t78 (And.intro Ty.t95 (And.intro Ty.t102 (And.intro Ty.t104 Ty.t153))))))))))))))))
 have F:=Fc.mk True.intro
 refine v_seqR [2,3] ?_;intro K1 k1;refine zq32 ⟨?_⟩;refine zAssign ⟨?_⟩;refine k1 _ ?_;refine zk ⟨?_⟩;refine v_seq ?_;intro Q2 n2 e2 r2;refine v_seqR [3,17] ?_;intro K3 k3;refine zc (isTown_con n ss hs) ⟨?_⟩;refine zUnOp ⟨?_⟩;refine zMove ⟨?_⟩;refine zgc (isControl_con n ss fl ins ws hs hl hls hil hin his hwl hwn) ⟨?_⟩;refine zgUnOp ⟨?_⟩;refine zPick ⟨?_⟩;refine k3 _ ?_;refine zk ⟨?_⟩;refine v_condS _ rfl ?_ ?_
 ·intro hc0
  have hB:(ctlB n ss fl ins ws)=false:=by
   cases hq:(ctlB n ss fl ins ws) with
   |false=>rfl
   |true=>(have ht:=ctl_town hq;simp [hq,ht] at hc0)
  refine v_seqR [4,5] ?_;intro K5 k5;refine zAssign ⟨?_⟩;refine zAssign ⟨?_⟩;refine k5 _ ?_;refine zk ⟨?_⟩;refine v_ret ?_;refine r2 _ ?_;refine r0 _ ?_;refine zf ⟨?_⟩
  exact ret_pure rfl (by rw [cTextR,hB];rfl) (.inl rfl)
 ·intro hc0
  have hB:(ctlB n ss fl ins ws)=true:=by
   cases hq:(ctlB n ss fl ins ws) with
   |true=>rfl
   |false=>simp [hq] at hc0
  have hc:=ctl_facts hB
  have ht:=ctl_txt hB
  have h8:=ht.i8
  have hw8:=ht.w8
  have hf12:=ht.fls
  have hiz:=iTexts_size h8 ht.inc
  have haz:(aTexts fl).size≤228:=aTexts_size hf12 ht.ap
  have hcz:(cBase fl ins).size≤1130:=by
   simp only [cBase,ByteArray.size_append,one_size];omega
  have hz0:(⟨#[47]⟩:ByteArray).size=1:=rfl
  have hz1:(⟨#[59]⟩:ByteArray).size=1:=rfl
  have hz2:(⟨#[64]⟩:ByteArray).size=1:=rfl
  have hz3:(⟨#[33]⟩:ByteArray).size=1:=rfl
  have hz4:(⟨#[58]⟩:ByteArray).size=1:=rfl
  have hz5:(⟨#[44]⟩:ByteArray).size=1:=rfl
  have hz6:(⟨#[42]⟩:ByteArray).size=1:=rfl
  have hz7:(⟨#[124]⟩:ByteArray).size=1:=rfl
  have hz8:(⟨#[32]⟩:ByteArray).size=1:=rfl
  refine v_skip ?_;refine n2 _ _ (weak_keep [3] _) ?_;refine zk ⟨?_⟩;refine v_seqR [3,6] ?_;intro K6 k6;refine zAssign ⟨?_⟩;refine k6 _ ?_;refine zk ⟨?_⟩;refine v_seq ?_;intro Q7 n7 e7 r7;refine v_seqR [3,6,19,20,21] ?_;intro K8 k8;refine zq18 ⟨?_⟩;refine k8 _ ?_;refine zk ⟨?_⟩;refine v_block ?_;intro Q9 n9 x9 e9 r9;refine v_loop (fun i=>⟨[(3,.ptr 1 0 0),(6,.ref 0),(19,.sl (ins.map (fun t:Int×Int×Bool×List ByteArray=>V.agg [V.int .i64 t.1,V.int .i64 t.2.1,V.bool t.2.2.1,V.sl (t.2.2.2.map V.str)]))),(20,.int .i64 ins.length),(21,.int .i64 (Nat.cast i))],[.arr (((ins.take i).map iText).map V.str) .flat,.box (.agg [.sl (fl.map (fun t:ByteArray×Int×Int×Int×Int=>V.agg [V.str t.1,V.int .i64 t.2.1,V.int .i64 t.2.2.1,V.int .i64 t.2.2.2.1,V.int .i64 t.2.2.2.2])),.sl (ins.map (fun t:Int×Int×Bool×List ByteArray=>V.agg [V.int .i64 t.1,V.int .i64 t.2.1,V.bool t.2.2.1,V.sl (t.2.2.2.map V.str)])),.sl (ws.map (fun t:Int×List Int=>V.agg [V.int .i64 t.1,V.sl (t.2.map (V.int .i64))]))]) .shal],false,59,0⟩) (fun i=>i≤ins.length) (fun i=>ins.length - i) 0 ?_ ?_ ?_
  ·refine weak_bothS [3,6,19,20,21] [2,1] ⟨?_⟩
   rfl
  ·exact Nat.zero_le _
  ·rintro i hok10 Q10 n10 e10 r10
   have hi1:i≤ins.length:=hok10
   refine v_seqR [3,6,19,20,21,22] ?_;intro K11 k11;refine zBinOp ⟨?_⟩;refine k11 _ ?_;refine zk ⟨?_⟩;refine v_seq ?_;intro Q12 n12 e12 r12;refine v_condS _ rfl ?_ ?_
   ·intro hc1
    have hlt:i < ins.length:=by omega
    obtain ⟨⟨x0,x1,x2,x3⟩,hx⟩:∃x:Int×Int×Bool×List ByteArray,ins[i]? =some x:=⟨ins[i]'(by omega),List.getElem?_eq_getElem (by omega)⟩
    have hix:=ht.inc _ (List.mem_of_getElem? hx)
    have htz:=iText_size hix
    simp only [] at hix
    have hsn:((ins.take i).map iText).map V.str++[V.str (iText (x0,x1,x2,x3))]=((ins.take (i+1)).map iText).map V.str:=by rw [List.take_add_one,hx];simp
    refine v_skip ?_;refine n12 _ _ (weak_keep [3,6,19,20,21] _) ?_;refine zk ⟨?_⟩;refine v_seq ?_;intro Q14 n14 e14 r14;refine v_block ?_;intro Q15 n15 x15 e15 r15;refine v_seqR [3,6,8,19,20,21] ?_;intro K16 k16
    have F:=Fc.mk (fun f=>getD_map (f:=f) hx)
    refine zq31 ⟨?_⟩;refine k16 _ ?_;refine zk ⟨?_⟩;refine v_region ?_;intro K17 k17;refine zMove ⟨?_⟩;refine zLoad ⟨?_⟩;refine zc (incidentText_con x0 x1 x2 x3 hix) ⟨?_⟩;refine zBuildSlice ⟨?_⟩;refine zAppend ⟨?_⟩;refine zAssign ⟨?_⟩;refine k17 _ ?_;refine n15 _ ?_;refine n14 _ _ (weak_keep [3,6,19,20,21] _) ?_;refine zk ⟨?_⟩;refine v_region ?_;intro K18 k18;refine zq5 ⟨?_⟩;refine k18 _ ?_;refine n10 _ (i+1) ?_ ?_ ?_
    ·refine weak_bothS [3,6,19,20,21] [5,1] ⟨?_⟩
     rw [←hsn];rfl
    ·exact hlt
    ·show _ < _;omega
   ·intro hc1
    have hend:i=ins.length:=by omega
    subst hend
    simp only [List.take_length]
    refine v_exit ?_;refine e12 _ _ ?_;refine e10 _ _ ?_;refine x9 _ ?_;refine n7 _ _ (weak_keep [3,6] _) ?_;refine zk ⟨?_⟩;refine v_seqR [3,9] ?_;intro K19 k19
    have F:=Fc.mk (And.intro @ByteArray.size_append (And.intro hz0 (And.intro hz1 (And.intro hz2 (And.intro hz3 (And.intro hz4 (And.intro hz5 (And.intro hz6 (And.intro hz7 hz8)))))))))
    refine zq1 ⟨?_⟩;refine zc (fleetText_con fl ht.fls ht.ap) ⟨?_⟩;refine zq5 ⟨?_⟩;refine zc (join_con (ins.map iText) (⟨#[32]⟩:ByteArray) (by rw [List.length_map];omega) (by intro w hw;obtain ⟨x,hx,rfl⟩:=List.mem_map.1 hw;have:=iText_size (ht.inc x hx);omega) (by decide)) ⟨?_⟩;refine zBinOpW ⟨?_⟩;refine zq3 ⟨?_⟩;refine k19 _ ?_;refine zk ⟨?_⟩;refine v_seq ?_;intro Q20 n20 e20 r20;refine v_seqR [9,40,41,42] ?_;intro K21 k21;refine zq18 ⟨?_⟩;refine k21 _ ?_;refine zk ⟨?_⟩;refine v_block ?_;intro Q22 n22 x22 e22 r22;refine v_loop (fun p=>⟨[(9,.str p.2),(40,.sl (ws.map (fun t:Int×List Int=>V.agg [V.int .i64 t.1,V.sl (t.2.map (V.int .i64))]))),(41,.int .i64 ws.length),(42,.int .i64 (Nat.cast p.1))],[],false,59,0⟩) (fun p=>p.1≤ws.length∧p.2.size≤1130+41 * p.1∧p.2=wTexts (cBase fl ins) (ws.take p.1)) (fun p=>ws.length - p.1) ((0,cBase fl ins):Nat×ByteArray) ?_ ?_ ?_
    ·refine weak_bothS [9,40,41,42] [] ⟨?_⟩
     rfl
    ·exact ⟨Nat.zero_le _,by show (cBase fl ins).size≤_;omega,rfl⟩
    ·rintro ⟨i,st⟩ hok23 Q23 n23 e23 r23
     obtain ⟨hi1,hsz,hR⟩:=hok23
     simp only [] at hi1 hsz hR⊢
     refine v_seqR [9,40,41,42,43] ?_;intro K24 k24;refine zBinOp ⟨?_⟩;refine k24 _ ?_;refine zk ⟨?_⟩;refine v_seq ?_;intro Q25 n25 e25 r25;refine v_condS _ rfl ?_ ?_
     ·intro hc2
      have hlt:i < ws.length:=by omega
      obtain ⟨⟨x0,x1⟩,hx⟩:∃x:Int×List Int,ws[i]? =some x:=⟨ws[i]'(by omega),List.getElem?_eq_getElem (by omega)⟩
      have hwx:=ht.want _ (List.mem_of_getElem? hx)
      have hst:=wTexts_step (s:=cBase fl ins) hx
      simp only [] at hwx
      obtain ⟨hw0,hw4,hwn2⟩:=hwx
      have hs0:=num3 hw0
      have hcs:=cat4_size hw4 hwn2
      have hwz:(wText (x0,x1)).size≤41:=by
       simp only [wText,ByteArray.size_append,one_size];omega
      refine v_skip ?_;refine n25 _ _ (weak_keep [9,40,41,42] _) ?_;refine zk ⟨?_⟩;refine v_seq ?_;intro Q27 n27 e27 r27;refine v_block ?_;intro Q28 n28 x28 e28 r28;refine v_seqR [9,11,40,41,42] ?_;intro K29 k29
      have F:=Fc.mk (And.intro @ByteArray.size_append (And.intro hz0 (And.intro hz1 (And.intro hz2 (And.intro hz3 (And.intro hz4 (And.intro hz5 (And.intro hz6 (And.intro hz7 (And.intro hz8 (And.intro (fun f=>getD_map (f:=f) hx) (And.intro @ByteArray.size_append (And.intro hz0 (And.intro hz1 (And.intro hz2 (And.intro hz3 (And.intro hz4 (And.intro hz5 (And.intro hz6 (And.intro hz7 hz8))))))))))))))))))))
      refine zq31 ⟨?_⟩;refine k29 _ ?_;refine zk ⟨?_⟩;refine v_draw (by kernel_rfl) ?_;intro K30 q30 k30
      show aAny _ _ _ _ 12 (Array.replicate 12 false) _
      refine zdMove q30 true 0 46 ?_;refine zdFieldAddr q30 true 1 47 ?_;refine zdLoad q30 true 2 48 ?_;refine zdFieldAddr q30 true 5 51 ?_;refine zdLoad q30 true 6 52 ?_;refine zoc 3 (itoa_con x0 (by omega)) ⟨?_⟩;refine zdBinOpW q30 true 4 50 ?_;refine zoc 7 ((by have q:=joinNumbers_con x1 .empty (by omega) (fun n h=>by have:=hwn2 n h;omega) (by decide);rw [joinB_cat] at q;exact q)) ⟨?_⟩;refine zdBinOpW q30 true 8 54 ?_;refine zdBinOpW q30 true 9 55 ?_;refine zdBinOpW q30 true 10 56 ?_;refine zoAssign 11 ⟨?_⟩;refine aAny_done (by kernel_rfl) ?_;refine k30 _ ?_;refine n28 _ ?_;refine n27 _ _ (weak_keep [9,40,41,42] _) ?_;refine zk ⟨?_⟩;refine v_region ?_;intro K31 k31;refine zq5 ⟨?_⟩;refine k31 _ ?_;refine n23 _ (i+1,st++(numB x0.toNat++(⟨#[42]⟩:ByteArray)++catB (numS x1)++(⟨#[59]⟩:ByteArray))) ?_ ?_ ?_
      ·refine weak_bothS [9,40,41,42] [] ⟨?_⟩
       rfl
      ·have hxe:st++(numB x0.toNat++(⟨#[42]⟩:ByteArray)++catB (numS x1)++(⟨#[59]⟩:ByteArray))=st++wText (x0,x1):=rfl
       exact ⟨hlt,by show ByteArray.size (st++(numB x0.toNat++(⟨#[42]⟩:ByteArray)++catB (numS x1)++(⟨#[59]⟩:ByteArray)))≤1130+41 * (i+1);rw [hxe,ByteArray.size_append];omega,by show st++(numB x0.toNat++(⟨#[42]⟩:ByteArray)++catB (numS x1)++(⟨#[59]⟩:ByteArray))=_;rw [hst,←hR,hxe]⟩
      ·show _ < _;show ws.length - (i+1) < ws.length - i;omega
     ·intro hc2
      refine v_exit ?_;refine e25 _ _ ?_;refine e23 _ _ ?_;refine x22 _ ?_;refine n20 _ _ (weak_keep [9] _) ?_;refine zk ⟨?_⟩;refine v_seqR [4,5] ?_;intro K32 k32;refine zq8 ⟨?_⟩;refine zAssign ⟨?_⟩;refine k32 _ ?_;refine zk ⟨?_⟩;refine v_ret ?_;refine r0 _ ?_;refine zf ⟨?_⟩
      have hend2:st=cText fl ins ws:=by rw [hR,List.take_of_length_le (by omega)];rfl
      exact ret_pure rfl (by rw [cTextR,hB,hend2];rfl) (.inl rfl)
set_option maxRecDepth 100000 in
set_option maxHeartbeats 1000000 in
theorem specCText_con (n:Int) (ss:List (Int×Int×Int)) (fl:List (ByteArray×Int×Int×Int×Int)) (ins:List (Int×Int×Bool×List ByteArray)) (ws:List (Int×List Int)) (hs:ss.length≤1048576) (hl:fl.length≤1048576) (hls:∀t∈fl,t.1.size≤9223372036854775807) (hil:ins.length≤1048576) (hin:∀x∈ins,x.2.2.2.length≤1048576) (his:∀x∈ins,∀s∈x.2.2.2,s.size≤9223372036854775807) (hwl:ws.length≤1048576) (hwn:∀x∈ws,x.2.length≤1048576):Con Tryz.prog 8 [.agg [.int .i64 n,.sl (ss.map (fun t:Int×Int×Int=>V.agg [V.int .i64 t.1,V.int .i64 t.2.1,V.int .i64 t.2.2]))],.agg [.sl (fl.map (fun t:ByteArray×Int×Int×Int×Int=>V.agg [V.str t.1,V.int .i64 t.2.1,V.int .i64 t.2.2.1,V.int .i64 t.2.2.2.1,V.int .i64 t.2.2.2.2])),.sl (ins.map (fun t:Int×Int×Bool×List ByteArray=>V.agg [V.int .i64 t.1,V.int .i64 t.2.1,V.bool t.2.2.1,V.sl (t.2.2.2.map V.str)])),.sl (ws.map (fun t:Int×List Int=>V.agg [V.int .i64 t.1,V.sl (t.2.map (V.int .i64))]))]] [] (.tup [.str (cTextR (ctlB n ss fl ins ws) fl ins ws),.bool (ctlB n ss fl ins ws)]) []:=by
 refine v_con [.tmp 4,.tmp 5] [] Tryz.func8 rfl rfl rfl (by simp [Tryz.ntmps8]) ?_
 intro Q0 n0 r0
 simp only [Tryz.ntmps8,envFrom,Nat.reduceAdd]
 have T:=Tys.mk (And.intro Ty.t3 (And.intro Ty.t4 (And.intro Ty.t9 (And.intro Ty.t34 (And.intro Ty.t36 (And.intro Ty.t38 (And.intro Ty.t39 (And.intro Ty.t40 (And.intro Ty.t42 (And.intro Ty.t47 (And.intro Ty.t49 (And.intro Ty.t76 (And.intro Ty.t78 (And.intro Ty.t95 Ty.t153))))))))))))))
 have F:=Fc.mk True.intro
 refine v_seqR [2,3] ?_;intro K1 k1;refine zq32 ⟨?_⟩;refine zAssign ⟨?_⟩;refine k1 _ ?_;refine zk ⟨?_⟩;refine v_seq ?_;intro Q2 n2 e2 r2;refine v_seqR [3,16] ?_;intro K3 k3;refine zLoad ⟨?_⟩;refine zLoad ⟨?_⟩;refine zc (roGood_con n ss fl ins ws hs hl hls hil hin his hwl hwn) ⟨?_⟩;refine zUnOp ⟨?_⟩;refine k3 _ ?_;refine zk ⟨?_⟩;refine v_condS _ rfl ?_ ?_
 ·intro hc0
  have hB:(ctlB n ss fl ins ws)=false:=by
   cases hq:(ctlB n ss fl ins ws) with
   |false=>rfl
   |true=>simp [hq] at hc0
  refine v_seqR [4,5] ?_;intro K5 k5;refine zAssign ⟨?_⟩;refine zAssign ⟨?_⟩;refine k5 _ ?_;refine zk ⟨?_⟩;refine v_ret ?_;refine r2 _ ?_;refine r0 _ ?_;refine zf ⟨?_⟩
  exact ret_pure rfl (by rw [cTextR,hB];rfl) (.inl rfl)
 ·intro hc0
  have hB:(ctlB n ss fl ins ws)=true:=by
   cases hq:(ctlB n ss fl ins ws) with
   |true=>rfl
   |false=>simp [hq] at hc0
  have hc:=ctl_facts hB
  have ht:=ctl_txt hB
  have h8:=ht.i8
  have hw8:=ht.w8
  have hf12:=ht.fls
  have hiz:=iTexts_size h8 ht.inc
  have haz:(aTexts fl).size≤228:=aTexts_size hf12 ht.ap
  have hcz:(cBase fl ins).size≤1130:=by
   simp only [cBase,ByteArray.size_append,one_size];omega
  have hz0:(⟨#[47]⟩:ByteArray).size=1:=rfl
  have hz1:(⟨#[59]⟩:ByteArray).size=1:=rfl
  have hz2:(⟨#[64]⟩:ByteArray).size=1:=rfl
  have hz3:(⟨#[33]⟩:ByteArray).size=1:=rfl
  have hz4:(⟨#[58]⟩:ByteArray).size=1:=rfl
  have hz5:(⟨#[44]⟩:ByteArray).size=1:=rfl
  have hz6:(⟨#[42]⟩:ByteArray).size=1:=rfl
  have hz7:(⟨#[124]⟩:ByteArray).size=1:=rfl
  have hz8:(⟨#[32]⟩:ByteArray).size=1:=rfl
  refine v_skip ?_;refine n2 _ _ (weak_keep [3] _) ?_;refine zk ⟨?_⟩;refine v_seqR [3,6] ?_;intro K6 k6
  have F:=Fc.mk (And.intro @ByteArray.size_append (And.intro hz0 (And.intro hz1 (And.intro hz2 (And.intro hz3 (And.intro hz4 (And.intro hz5 (And.intro hz6 (And.intro hz7 hz8)))))))))
  refine zq1 ⟨?_⟩;refine zc (apText_con fl ht.fls ht.ap) ⟨?_⟩;refine zq3 ⟨?_⟩;refine k6 _ ?_;refine zk ⟨?_⟩;refine v_seq ?_;intro Q7 n7 e7 r7;refine v_seqR [3,6,22,23,24] ?_;intro K8 k8;refine zq18 ⟨?_⟩;refine k8 _ ?_;refine zk ⟨?_⟩;refine v_block ?_;intro Q9 n9 x9 e9 r9;refine v_loop (fun p=>⟨[(3,.ptr 0 0 0),(6,.str p.2),(22,.sl (ins.map (fun t:Int×Int×Bool×List ByteArray=>V.agg [V.int .i64 t.1,V.int .i64 t.2.1,V.bool t.2.2.1,V.sl (t.2.2.2.map V.str)]))),(23,.int .i64 ins.length),(24,.int .i64 (Nat.cast p.1))],[.box (.agg [.sl (fl.map (fun t:ByteArray×Int×Int×Int×Int=>V.agg [V.str t.1,V.int .i64 t.2.1,V.int .i64 t.2.2.1,V.int .i64 t.2.2.2.1,V.int .i64 t.2.2.2.2])),.sl (ins.map (fun t:Int×Int×Bool×List ByteArray=>V.agg [V.int .i64 t.1,V.int .i64 t.2.1,V.bool t.2.2.1,V.sl (t.2.2.2.map V.str)])),.sl (ws.map (fun t:Int×List Int=>V.agg [V.int .i64 t.1,V.sl (t.2.map (V.int .i64))]))]) .shal],false,69,0⟩) (fun p=>p.1≤ins.length∧p.2.size≤230+101 * p.1∧p.2=(aTexts fl++(⟨#[124]⟩:ByteArray))++joinB ((ins.map iText).take p.1) (⟨#[32]⟩:ByteArray)) (fun p=>ins.length - p.1) ((0,(aTexts fl++(⟨#[124]⟩:ByteArray))):Nat×ByteArray) ?_ ?_ ?_
  ·refine weak_bothS [3,6,22,23,24] [1] ⟨?_⟩
   rfl
  ·exact ⟨Nat.zero_le _,by show ByteArray.size (aTexts fl++(⟨#[124]⟩:ByteArray))≤_;simp only [ByteArray.size_append,hz7];omega,by show (aTexts fl++(⟨#[124]⟩:ByteArray))=_;rw [List.take_zero,joinB_nil,ByteArray.append_empty]⟩
  ·rintro ⟨i,st⟩ hok10 Q10 n10 e10 r10
   obtain ⟨hi1,hsz,hR⟩:=hok10
   simp only [] at hi1 hsz hR⊢
   refine v_seqR [3,6,22,23,24,25] ?_;intro K11 k11;refine zBinOp ⟨?_⟩;refine k11 _ ?_;refine zk ⟨?_⟩;refine v_seq ?_;intro Q12 n12 e12 r12;refine v_condS _ rfl ?_ ?_
   ·intro hc1
    have hlt:i < ins.length:=by omega
    obtain ⟨⟨x0,x1,x2,x3⟩,hx⟩:∃x:Int×Int×Bool×List ByteArray,ins[i]? =some x:=⟨ins[i]'(by omega),List.getElem?_eq_getElem (by omega)⟩
    have hix:=ht.inc _ (List.mem_of_getElem? hx)
    have htz:=iText_size hix
    simp only [] at hix
    have hxt:(ins.map iText)[i]? =some (iText (x0,x1,x2,x3)):=by rw [List.getElem?_map,hx];rfl
    refine v_skip ?_;refine n12 _ _ (weak_keep [3,6,22,23,24] _) ?_;refine zk ⟨?_⟩;refine v_seq ?_;intro Q14 n14 e14 r14;refine v_block ?_;intro Q15 n15 x15 e15 r15;refine v_seqR [3,6,7,8,22,23,24] ?_;intro K16 k16
    have F:=Fc.mk (And.intro @ByteArray.size_append (And.intro hz0 (And.intro hz1 (And.intro hz2 (And.intro hz3 (And.intro hz4 (And.intro hz5 (And.intro hz6 (And.intro hz7 (And.intro hz8 (And.intro (fun f=>getD_map (f:=f) hx) (And.intro @ByteArray.size_append (And.intro hz0 (And.intro hz1 (And.intro hz2 (And.intro hz3 (And.intro hz4 (And.intro hz5 (And.intro hz6 (And.intro hz7 hz8))))))))))))))))))))
    refine zq23 ⟨?_⟩;refine k16 _ ?_;refine zk ⟨?_⟩;refine v_seq ?_;intro Q17 n17 e17 r17;refine v_seqR [3,6,8,22,23,24,30] ?_;intro K18 k18;refine zq13 ⟨?_⟩;refine k18 _ ?_;refine zk ⟨?_⟩;refine v_condS _ rfl ?_ ?_
    ·intro hc2
     refine v_region ?_;intro K20 k20;refine zq6 ⟨?_⟩;refine k20 _ ?_;refine n17 _ _ (weak_keep [3,6,8,22,23,24] _) ?_;refine zk ⟨?_⟩;refine v_region ?_;intro K21 k21;refine zMove ⟨?_⟩;refine zLoad ⟨?_⟩;refine zc (ixText_con x0 x1 x2 x3 hix) ⟨?_⟩;refine zq3 ⟨?_⟩;refine k21 _ ?_;refine n15 _ ?_;refine n14 _ _ (weak_keep [3,6,22,23,24] _) ?_;refine zk ⟨?_⟩;refine v_region ?_;intro K22 k22;refine zq5 ⟨?_⟩;refine k22 _ ?_;refine n10 _ (i+1,st++(⟨#[32]⟩:ByteArray)++iText (x0,x1,x2,x3)) ?_ ?_ ?_
     ·refine weak_bothS [3,6,22,23,24] [0] ⟨?_⟩
      rfl
     ·exact ⟨hlt,by show ByteArray.size (st++(⟨#[32]⟩:ByteArray)++_)≤230+101 * (i+1);simp only [ByteArray.size_append,hz8];omega,by show st++(⟨#[32]⟩:ByteArray)++_=_;rw [hR,joinB_step hxt (by omega)];simp only [ByteArray.append_assoc]⟩
     ·show _ < _;show ins.length - (i+1) < ins.length - i;omega
    ·intro hc2
     refine v_skip ?_;refine n17 _ _ (weak_keep [3,6,8,22,23,24] _) ?_;refine zk ⟨?_⟩;refine v_region ?_;intro K23 k23;refine zMove ⟨?_⟩;refine zLoad ⟨?_⟩;refine zc (ixText_con x0 x1 x2 x3 hix) ⟨?_⟩;refine zq3 ⟨?_⟩;refine k23 _ ?_;refine n15 _ ?_;refine n14 _ _ (weak_keep [3,6,22,23,24] _) ?_;refine zk ⟨?_⟩;refine v_region ?_;intro K24 k24;refine zq5 ⟨?_⟩;refine k24 _ ?_;refine n10 _ (i+1,st++iText (x0,x1,x2,x3)) ?_ ?_ ?_
     ·refine weak_bothS [3,6,22,23,24] [0] ⟨?_⟩
      rfl
     ·have h00:i=0:=by omega
      subst h00
      exact ⟨hlt,by show ByteArray.size (st++_)≤230+101 * 1;simp only [ByteArray.size_append];omega,by show st++_=_;rw [hR,joinB_zero hxt,List.take_zero,joinB_nil,ByteArray.append_empty]⟩
     ·show _ < _;show ins.length - (i+1) < ins.length - i;omega
   ·intro hc1
    have hbase:st++(⟨#[124]⟩:ByteArray)=cBase fl ins:=by rw [hR,List.take_of_length_le (by rw [List.length_map];omega)];rfl
    refine v_exit ?_;refine e12 _ _ ?_;refine e10 _ _ ?_;refine x9 _ ?_;refine n7 _ _ (weak_keep [3,6] _) ?_;refine zk ⟨?_⟩;refine v_seqR [3,6] ?_;intro K25 k25
    have F:=Fc.mk (And.intro @ByteArray.size_append (And.intro hz0 (And.intro hz1 (And.intro hz2 (And.intro hz3 (And.intro hz4 (And.intro hz5 (And.intro hz6 (And.intro hz7 (And.intro hz8 (And.intro @ByteArray.size_append (And.intro hz0 (And.intro hz1 (And.intro hz2 (And.intro hz3 (And.intro hz4 (And.intro hz5 (And.intro hz6 (And.intro hz7 hz8)))))))))))))))))))
    refine zq6 ⟨?_⟩;refine k25 _ ?_;refine zk ⟨?_⟩;refine v_seq ?_;intro Q26 n26 e26 r26;refine v_seqR [6,41,42,43] ?_;intro K27 k27;refine zq18 ⟨?_⟩;refine k27 _ ?_;refine zk ⟨?_⟩;refine v_block ?_;intro Q28 n28 x28 e28 r28;refine v_loop (fun p=>⟨[(6,.str p.2),(41,.sl (ws.map (fun t:Int×List Int=>V.agg [V.int .i64 t.1,V.sl (t.2.map (V.int .i64))]))),(42,.int .i64 ws.length),(43,.int .i64 (Nat.cast p.1))],[],false,69,0⟩) (fun p=>p.1≤ws.length∧p.2.size≤1130+41 * p.1∧p.2=wTexts (cBase fl ins) (ws.take p.1)) (fun p=>ws.length - p.1) ((0,cBase fl ins):Nat×ByteArray) ?_ ?_ ?_
    ·refine weak_bothS [6,41,42,43] [] ⟨?_⟩
     rw [hbase];rfl
    ·exact ⟨Nat.zero_le _,by show (cBase fl ins).size≤_;omega,rfl⟩
    ·rintro ⟨i,st⟩ hok29 Q29 n29 e29 r29
     obtain ⟨hi1,hsz,hR⟩:=hok29
     simp only [] at hi1 hsz hR⊢
     refine v_seqR [6,41,42,43,44] ?_;intro K30 k30;refine zBinOp ⟨?_⟩;refine k30 _ ?_;refine zk ⟨?_⟩;refine v_seq ?_;intro Q31 n31 e31 r31;refine v_condS _ rfl ?_ ?_
     ·intro hc3
      have hlt:i < ws.length:=by omega
      obtain ⟨⟨x0,x1⟩,hx⟩:∃x:Int×List Int,ws[i]? =some x:=⟨ws[i]'(by omega),List.getElem?_eq_getElem (by omega)⟩
      have hwx:=ht.want _ (List.mem_of_getElem? hx)
      have hst:=wTexts_step (s:=cBase fl ins) hx
      simp only [] at hwx
      obtain ⟨hw0,hw4,hwn2⟩:=hwx
      have hs0:=num3 hw0
      have hcs:=cat4_size hw4 hwn2
      have hwz:(wText (x0,x1)).size≤41:=by
       simp only [wText,ByteArray.size_append,one_size];omega
      refine v_skip ?_;refine n31 _ _ (weak_keep [6,41,42,43] _) ?_;refine zk ⟨?_⟩;refine v_seq ?_;intro Q33 n33 e33 r33;refine v_block ?_;intro Q34 n34 x34 e34 r34;refine v_seqR [6,10,41,42,43] ?_;intro K35 k35
      have F:=Fc.mk (And.intro @ByteArray.size_append (And.intro hz0 (And.intro hz1 (And.intro hz2 (And.intro hz3 (And.intro hz4 (And.intro hz5 (And.intro hz6 (And.intro hz7 (And.intro hz8 (And.intro @ByteArray.size_append (And.intro hz0 (And.intro hz1 (And.intro hz2 (And.intro hz3 (And.intro hz4 (And.intro hz5 (And.intro hz6 (And.intro hz7 (And.intro hz8 (And.intro (fun f=>getD_map (f:=f) hx) (And.intro @ByteArray.size_append (And.intro hz0 (And.intro hz1 (And.intro hz2 (And.intro hz3 (And.intro hz4 (And.intro hz5 (And.intro hz6 (And.intro hz7 hz8))))))))))))))))))))))))))))))
      refine zq31 ⟨?_⟩;refine k35 _ ?_;refine zk ⟨?_⟩;refine v_seqR [6,10,41,42,43] ?_;intro K36 k36;refine zMove ⟨?_⟩;refine zq1 ⟨?_⟩;refine zc (l1Num_con x0 (by omega)) ⟨?_⟩;refine zBinOpW ⟨?_⟩;refine zq3 ⟨?_⟩;refine k36 _ ?_;refine zk ⟨?_⟩;refine v_seq ?_;intro Q37 n37 e37 r37;refine v_seqR [6,41,42,43,54,55,56] ?_;intro K38 k38;refine zq18 ⟨?_⟩;refine k38 _ ?_;refine zk ⟨?_⟩;refine v_block ?_;intro Q39 n39 x39 e39 r39;refine v_loop (fun q=>⟨[(6,.str q.2),(41,.sl (ws.map (fun t:Int×List Int=>V.agg [V.int .i64 t.1,V.sl (t.2.map (V.int .i64))]))),(42,.int .i64 ws.length),(43,.int .i64 (Nat.cast i)),(54,.sl (x1.map (V.int .i64))),(55,.int .i64 x1.length),(56,.int .i64 (Nat.cast q.1))],[],false,69,0⟩) (fun q=>q.1≤x1.length∧q.2.size≤st.size+4+9 * q.1∧q.2=st++(numB x0.toNat++(⟨#[42]⟩:ByteArray))++catB (numS (x1.take q.1))) (fun q=>x1.length - q.1) ((0,st++(numB x0.toNat++(⟨#[42]⟩:ByteArray))):Nat×ByteArray) ?_ ?_ ?_
      ·refine weak_bothS [6,41,42,43,54,55,56] [] ⟨?_⟩
       rfl
      ·exact ⟨Nat.zero_le _,by show ByteArray.size (st++(numB x0.toNat++(⟨#[42]⟩:ByteArray)))≤_;simp only [ByteArray.size_append,hz6];omega,by show _=st++(numB x0.toNat++(⟨#[42]⟩:ByteArray))++ByteArray.empty;rw [ByteArray.append_empty]⟩
      ·rintro ⟨j,s2⟩ hok40 Q40 n40 e40 r40
       obtain ⟨hj1,hs2,hS⟩:=hok40
       simp only [] at hj1 hs2 hS⊢
       refine v_seqR [6,41,42,43,54,55,56,57] ?_;intro K41 k41;refine zBinOp ⟨?_⟩;refine k41 _ ?_;refine zk ⟨?_⟩;refine v_seq ?_;intro Q42 n42 e42 r42;refine v_condS _ rfl ?_ ?_
       ·intro hc4
        have hlj:j < x1.length:=by omega
        obtain ⟨y,hy⟩:∃y,x1[j]? =some y:=⟨x1[j],List.getElem?_eq_getElem hlj⟩
        have hyn:=hwn2 y (List.mem_of_getElem? hy)
        have hys:=numB_size 9 y.toNat (by omega) (by omega)
        have hct:=cat_step2 hy
        refine v_skip ?_;refine n42 _ _ (weak_keep [6,41,42,43,54,55,56] _) ?_;refine zk ⟨?_⟩;refine v_seq ?_;intro Q44 n44 e44 r44;refine v_block ?_;intro Q45 n45 x45 e45 r45;refine v_seqR [6,12,41,42,43,54,55,56] ?_;intro K46 k46
        have F:=Fc.mk (And.intro @ByteArray.size_append (And.intro hz0 (And.intro hz1 (And.intro hz2 (And.intro hz3 (And.intro hz4 (And.intro hz5 (And.intro hz6 (And.intro hz7 (And.intro hz8 (And.intro @ByteArray.size_append (And.intro hz0 (And.intro hz1 (And.intro hz2 (And.intro hz3 (And.intro hz4 (And.intro hz5 (And.intro hz6 (And.intro hz7 (And.intro hz8 (And.intro (fun f=>getD_map (f:=f) hx) (And.intro @ByteArray.size_append (And.intro hz0 (And.intro hz1 (And.intro hz2 (And.intro hz3 (And.intro hz4 (And.intro hz5 (And.intro hz6 (And.intro hz7 (And.intro hz8 (And.intro (fun f=>getD_map (f:=f) hy) (And.intro @ByteArray.size_append (And.intro hz0 (And.intro hz1 (And.intro hz2 (And.intro hz3 (And.intro hz4 (And.intro hz5 (And.intro hz6 (And.intro hz7 hz8)))))))))))))))))))))))))))))))))))))))))
        refine zq25 ⟨?_⟩;refine k46 _ ?_;refine zk ⟨?_⟩;refine v_region ?_;intro K47 k47;refine zq2 ⟨?_⟩;refine zc (l1Num_con y (by omega)) ⟨?_⟩;refine zq3 ⟨?_⟩;refine k47 _ ?_;refine n45 _ ?_;refine n44 _ _ (weak_keep [6,41,42,43,54,55,56] _) ?_;refine zk ⟨?_⟩;refine v_region ?_;intro K48 k48;refine zq5 ⟨?_⟩;refine k48 _ ?_;refine n40 _ (j+1,s2++numB y.toNat) ?_ ?_ ?_
        ·refine weak_bothS [6,41,42,43,54,55,56] [] ⟨?_⟩
         rfl
        ·exact ⟨hlj,by show ByteArray.size (s2++_)≤st.size+4+9 * (j+1);rw [ByteArray.size_append];omega,by show s2++_=_;rw [hct,hS,ByteArray.append_assoc]⟩
        ·show _ < _;show x1.length - (j+1) < x1.length - j;omega
       ·intro hc4
        have hje:s2=st++(numB x0.toNat++(⟨#[42]⟩:ByteArray))++catB (numS x1):=by rw [hS,List.take_of_length_le (by omega)]
        refine v_exit ?_;refine e42 _ _ ?_;refine e40 _ _ ?_;refine x39 _ ?_;refine n37 _ _ (weak_keep [6,41,42,43] _) ?_;refine zk ⟨?_⟩;refine v_region ?_;intro K49 k49
        have F:=Fc.mk (And.intro @ByteArray.size_append (And.intro hz0 (And.intro hz1 (And.intro hz2 (And.intro hz3 (And.intro hz4 (And.intro hz5 (And.intro hz6 (And.intro hz7 (And.intro hz8 (And.intro @ByteArray.size_append (And.intro hz0 (And.intro hz1 (And.intro hz2 (And.intro hz3 (And.intro hz4 (And.intro hz5 (And.intro hz6 (And.intro hz7 (And.intro hz8 (And.intro (fun f=>getD_map (f:=f) hx) (And.intro @ByteArray.size_append (And.intro hz0 (And.intro hz1 (And.intro hz2 (And.intro hz3 (And.intro hz4 (And.intro hz5 (And.intro hz6 (And.intro hz7 (And.intro hz8 (And.intro @ByteArray.size_append (And.intro hz0 (And.intro hz1 (And.intro hz2 (And.intro hz3 (And.intro hz4 (And.intro hz5 (And.intro hz6 (And.intro hz7 hz8))))))))))))))))))))))))))))))))))))))))
        refine zq6 ⟨?_⟩;refine k49 _ ?_;refine n34 _ ?_;refine n33 _ _ (weak_keep [6,41,42,43] _) ?_;refine zk ⟨?_⟩;refine v_region ?_;intro K50 k50;refine zq5 ⟨?_⟩;refine k50 _ ?_;refine n29 _ (i+1,s2++(⟨#[59]⟩:ByteArray)) ?_ ?_ ?_
        ·refine weak_bothS [6,41,42,43] [] ⟨?_⟩
         rfl
        ·have hxe:s2++(⟨#[59]⟩:ByteArray)=st++wText (x0,x1):=by rw [hje];simp only [wText,ByteArray.append_assoc]
         exact ⟨hlt,by show ByteArray.size (s2++(⟨#[59]⟩:ByteArray))≤1130+41 * (i+1);rw [hxe,ByteArray.size_append];omega,by show s2++(⟨#[59]⟩:ByteArray)=_;rw [hst,←hR,hxe]⟩
        ·show _ < _;show ws.length - (i+1) < ws.length - i;omega
     ·intro hc3
      refine v_exit ?_;refine e31 _ _ ?_;refine e29 _ _ ?_;refine x28 _ ?_;refine n26 _ _ (weak_keep [6] _) ?_;refine zk ⟨?_⟩;refine v_seqR [4,5] ?_;intro K51 k51;refine zq8 ⟨?_⟩;refine zAssign ⟨?_⟩;refine k51 _ ?_;refine zk ⟨?_⟩;refine v_ret ?_;refine r0 _ ?_;refine zf ⟨?_⟩
      have hend2:st=cText fl ins ws:=by rw [hR,List.take_of_length_le (by omega)];rfl
      exact ret_pure rfl (by rw [cTextR,hB,hend2];rfl) (.inl rfl)
end Go.Proofs.YtaefoaghpehbpaaGreatDoor
