/- What functions compute. No condition. -/
import Derived.Test.YtbameklegpgkfaaDoorUz
import Derived.Test.YtbameklegpgkfaaDoorUty
import Derived.Test.YtbameklegpgkfaaDoorUmG
import Derived.Test.YtbameklegpgkfaaDoorX9
import Derived.Test.YtbameklegpgkfaaDoorX2
import Derived.Test.YtbameklegpgkfaaDoorX1
import Derived.Test.YtbameklegpgkfaaDoorX4
import Derived.Test.YtbameklegpgkfaaDoorX3
import Derived.Test.YtbameklegpgkfaaDoorX6
import Derived.Test.YtbameklegpgkfaaDoorX10
set_option linter.unusedSimpArgs false
set_option linter.unusedVariables false
set_option linter.defProp false
namespace Go.Proofs.YtbameklegpgkfaaDoor
open Go Go.Vm
theorem take_while_len {α:Type} (p:α→Bool):∀(l:List α) (i:Nat),(∀k x,l[k]? =some x→k < i→p x=true)→i≤l.length→(∀x,l[i]? =some x→p x=false)→(l.takeWhile p).length=i
  | [],i,_,h,_=>by
    have:i=0:=by simpa using h
    subst this;rfl
  | x::l,0,_,_,h=>by
    have:=h x rfl
    rw [List.takeWhile_cons,this];rfl
  | x::l,i+1,h1,h2,h3=>by
    have hx:=h1 0 x rfl (by omega)
    rw [List.takeWhile_cons,hx]
    simp only [if_true,List.length_cons]
    rw [take_while_len p l i (fun k y hk hlt=>h1 (k+1) y (by simpa using hk) (by omega)) (by simpa using h2) (fun y hy=>h3 y (by simpa using hy))]
theorem lb_stopA {s:ByteArray} {l:List (ByteArray×Int×Int)} {i:Nat} {x:(ByteArray×Int×Int)} (hx:l[i]? =some x) (hf:strLt x.1 s=false) (h1:∀k x,l[k]? =some x→k < i→strLt x.1 s=true):i=lbT l s∧thereT l s=decide (x.1=s):=by
  have hl:=(List.getElem?_eq_some_iff.1 hx).1
  have e:lbT l s=i:=take_while_len _ l i (fun k y hk hlt=>h1 k y hk hlt) (by omega) (fun y hy=>by rw [hx] at hy;cases hy;exact hf)
  refine ⟨e.symm,?_⟩
  rw [thereT,e,hx]
theorem lb_endA {s:ByteArray} {l:List (ByteArray×Int×Int)} {i:Nat} (hi:i≤l.length) (hl:l.length≤i) (h1:∀k x,l[k]? =some x→k < i→strLt x.1 s=true):i=lbT l s∧thereT l s=false:=by
  have e:lbT l s=i:=take_while_len _ l i (fun k y hk hlt=>h1 k y hk hlt) hi (fun y hy=>by rw [List.getElem?_eq_none hl] at hy;cases hy)
  refine ⟨e.symm,?_⟩
  rw [thereT,e,List.getElem?_eq_none hl]
def inD (d:Int):Bool:=decide (0≤d) && decide (d≤9999)
def dueB (a:ByteArray) (l:List (ByteArray×Int×Int)) (day ev:Int):Bool:=(nameB a && thsB l) && inD day && (decide (1≤ev) && decide (ev≤1000))
def dueL (l:List (ByteArray×Int×Int)) (day ev:Int):List ByteArray:=(l.filter fun t=>decide (ev≤day - t.2.2)).map fun t=>t.1
theorem dueL_yes {l:List (ByteArray×Int×Int)} {day ev:Int} {i:Nat} {x:(ByteArray×Int×Int)} (h:l[i]? =some x) (hp:ev≤day - x.2.2):dueL (l.take (i+1)) day ev=dueL (l.take i) day ev++[x.1]:=by
  unfold dueL
  rw [List.take_add_one,h,Option.toList_some,List.filter_append,List.map_append];simp [hp]
theorem dueL_no {l:List (ByteArray×Int×Int)} {day ev:Int} {i:Nat} {x:(ByteArray×Int×Int)} (h:l[i]? =some x) (hp:¬ev≤day - x.2.2):dueL (l.take (i+1)) day ev=dueL (l.take i) day ev:=by
  unfold dueL
  rw [List.take_add_one,h,Option.toList_some,List.filter_append,List.map_append];simp [hp]
theorem dueL_len (l:List (ByteArray×Int×Int)) (day ev:Int):(dueL l day ev).length≤l.length:=by
  unfold dueL;rw [List.length_map];exact List.length_filter_le ..
def chkB (a:ByteArray) (l:List (ByteArray×Int×Int)) (s:ByteArray) (day:Int):Bool:=(nameB a && thsB l) && inD day && thereT l s
def chkL (l:List (ByteArray×Int×Int)) (s:ByteArray) (day:Int):List (ByteArray×Int×Int):=match l[lbT l s]? with
  | some t=>l.set (lbT l s) (t.1,t.2.1,day)
  | none=>l
theorem chkL_at {l:List (ByteArray×Int×Int)} {s:ByteArray} {day:Int} {t:(ByteArray×Int×Int)} (h:l[lbT l s]? =some t):chkL l s day=l.set (lbT l s) (t.1,t.2.1,day):=by unfold chkL;rw [h]
theorem chkL_len (l:List (ByteArray×Int×Int)) (s:ByteArray) (day:Int):(chkL l s day).length=l.length:=by
  unfold chkL;split
  · rw [List.length_set]
  · rfl
theorem chk_facts {a:ByteArray} {l:List (ByteArray×Int×Int)} {s:ByteArray} {day:Int} (h:chkB a l s day=true):nameB a=true∧ThOK l∧(0≤day∧day≤9999)∧∃t,l[lbT l s]? =some t∧t.1=s:=by
  simp only [chkB,inD,Bool.and_eq_true,decide_eq_true_eq] at h
  refine ⟨h.1.1.1,(ths_iff _).1 h.1.1.2,h.1.2,?_⟩
  have:=h.2
  unfold thereT at this
  cases q:l[lbT l s]? with
  | none=>rw [q] at this;cases this
  | some t=>rw [q] at this;exact ⟨t,rfl,by simpa using this⟩
theorem chk_ok {a:ByteArray} {l:List (ByteArray×Int×Int)} {s:ByteArray} {day:Int} (h:chkB a l s day=true):ThOK (chkL l s day)∧∀x∈chkL l s day,x.1=s→x.2.2=day:=by
  obtain ⟨_,hl,hd,t,ht,hts⟩:=chk_facts h
  have hk:=(List.getElem?_eq_some_iff.1 ht).1
  rw [chkL_at ht]
  have hto:=hl.ok t (List.mem_of_getElem? ht)
  have hp:=hl.srt
  have hmap:(l.set (lbT l s) (t.1,t.2.1,day)).map (fun x=>x.1)=l.map fun x=>x.1:=by
    rw [List.map_set]
    apply List.ext_getElem?
    intro k
    rw [List.getElem?_set]
    split
    · rename_i e
      subst e
      rw [if_pos (by rw [List.length_map];exact hk),List.getElem?_map,ht];rfl
    · rfl
  refine ⟨⟨?_,fun x hx=> ?_,by rw [List.length_set];exact hl.len⟩,fun x hx hxs=> ?_⟩
  · have h1:(l.map fun x=>x.1).Pairwise fun a b=>strLt a b=true:=List.pairwise_map.2 hp
    rw [←hmap] at h1
    exact List.pairwise_map.1 h1
  · rcases List.mem_or_eq_of_mem_set hx with q | q
    · exact hl.ok x q
    · subst q;exact ⟨hto.1,hto.2.1,hd⟩
  · obtain ⟨k,hkl,rfl⟩:=List.mem_iff_getElem.1 hx
    rw [List.length_set] at hkl
    rw [List.getElem_set] at hxs⊢
    split
    · rfl
    · rename_i hne
      rw [if_neg hne] at hxs
      exfalso
      have hn:=List.pairwise_iff_getElem.1 (srt_ne hp)
      have e1:l[lbT l s]=t:=(List.getElem?_eq_some_iff.1 ht).2
      rcases Nat.lt_trichotomy k (lbT l s) with z | z | z
      · have:=hn k (lbT l s) hkl hk z;rw [e1,hts,hxs] at this;exact this rfl
      · exact hne z.symm
      · have:=hn (lbT l s) k hk hkl z;rw [e1,hts,hxs] at this;exact this rfl
theorem due_not {l:List (ByteArray×Int×Int)} {s:ByteArray} {day:Int} (h:∀x∈l,x.1=s→x.2.2=day):s ∉ dueL l day 1:=by
  unfold dueL
  intro hm
  obtain ⟨x,hx,e⟩:=List.mem_map.1 hm
  rw [List.mem_filter,decide_eq_true_eq] at hx
  have:=h x hx.1 e
  omega
def thTx (t:(ByteArray×Int×Int)):ByteArray:=(⟨#[32]⟩:ByteArray)++t.1++(⟨#[42]⟩:ByteArray)++numB t.2.1.toNat++(⟨#[64]⟩:ByteArray)++numB t.2.2.toNat
def ldTx (a:ByteArray) (l:List (ByteArray×Int×Int)):ByteArray:=l.foldl (fun s t=>s++thTx t) (a++(⟨#[58]⟩:ByteArray))
def ldTxR (b:Bool) (a:ByteArray) (l:List (ByteArray×Int×Int)):ByteArray:=if b=true then ldTx a l else .empty
theorem ldTx_step {a:ByteArray} {l:List (ByteArray×Int×Int)} {i:Nat} {x:(ByteArray×Int×Int)} (h:l[i]? =some x):ldTx a (l.take (i+1))=ldTx a (l.take i)++thTx x:=by
  rw [ldTx,List.take_add_one,h,Option.toList_some,List.foldl_append];rfl
theorem thTx_size {x:(ByteArray×Int×Int)} (h0:tnB x.1=true) (h1:1≤x.2.1∧x.2.1≤99) (h2:0≤x.2.2∧x.2.2≤9999):(thTx x).size≤17∧(numB x.2.1.toNat).size≤2∧(numB x.2.2.toNat).size≤4∧x.1.size≤8:=by
  have e0:=tn_size h0
  have e1:=numB_size 2 x.2.1.toNat (by omega) (by omega)
  have e2:=numB_size 4 x.2.2.toNat (by omega) (by omega)
  have z0:(⟨#[32]⟩:ByteArray).size=1:=rfl
  have z1:(⟨#[42]⟩:ByteArray).size=1:=rfl
  have z2:(⟨#[64]⟩:ByteArray).size=1:=rfl
  simp only [thTx,ByteArray.size_append]
  omega
theorem chk_split (l:List (ByteArray×Int×Int)) (s:ByteArray):thsB l=false∨(thsB l=true∧thereT l s=false∧atT l s=-1)∨∃y:(ByteArray×Int×Int),thsB l=true∧thereT l s=true∧atT l s=(lbT l s:Int)∧l[lbT l s]? =some y:=by
  cases h:thsB l
  · exact .inl rfl
  · right
    have hk:=(ths_iff _).1 h
    rcases there_cases hk.srt s with ⟨h1,h2,_,_⟩ | ⟨y,h1,h2,h3,_,_⟩
    · exact .inl ⟨rfl,h1,h2⟩
    · exact .inr ⟨y,rfl,h1,h2,h3⟩
set_option maxHeartbeats 1000000 in
theorem eqFindA_con (l:List (ByteArray×Int×Int)) (s:ByteArray) (hl:l.length≤1048576):Con Tryd.prog 134 [.sl (l.map (fun t:ByteArray×Int×Int=>V.agg [V.str t.1,V.int .i64 t.2.1,V.int .i64 t.2.2])),.str s] [] (.tup [.int .i64 (Nat.cast (lbT l s)),.bool (thereT l s)]) []:=by
 refine v_con [.tmp 4,.tmp 5] [] Tryd.func134 rfl rfl rfl (by simp [Tryd.ntmps134]) ?_
 intro Q0 n0 r0
 simp only [Tryd.ntmps134,envFrom,Nat.reduceAdd]
 have T:=Tys.mk (And.intro Ty.t3 (And.intro Ty.t9 (And.intro Ty.t63 Ty.t93)))
 have F:=Fc.mk True.intro
 refine v_seqR [0,1] ?_;intro K1 k1;refine zq1 ⟨?_⟩;refine k1 _ ?_;refine zk ⟨?_⟩;refine v_seqR [0,1,6] ?_;intro K2 k2;refine zAssign ⟨?_⟩;refine k2 _ ?_;refine zk ⟨?_⟩;refine v_seq ?_;intro Q3 n3 e3 r3;refine v_block ?_;intro Q4 n4 x4 e4 r4;refine v_loop (fun i=>⟨[(0,.sl (l.map (fun t:ByteArray×Int×Int=>V.agg [V.str t.1,V.int .i64 t.2.1,V.int .i64 t.2.2]))),(1,.str s),(6,.int .i64 (Nat.cast i))],[],false,36,0⟩) (fun i=>i≤l.length∧∀k x,l[k]? =some x→k < i→strLt x.1 s=true) (fun i=>l.length - i) 0 ?_ ?_ ?_
 ·refine weak_of [0,1,6] ?_
  simp only [keep_mk,keepE_nil,keepE_cons,look_cons,look_nil,Nat.reduceEqDiff,reduceIte]
  rfl
 ·exact ⟨Nat.zero_le _,fun k x _ h=>absurd h (Nat.not_lt_zero _)⟩
 ·rintro i hok5 Q5 n5 e5 r5
  obtain ⟨hi1,hR⟩:=hok5
  rcases Nat.lt_or_ge i l.length with hlt | hge
  ·skip
   obtain ⟨⟨x0,x1,x2⟩,hx⟩:∃x:ByteArray×Int×Int,l[i]? =some x:=⟨l[i]'(by omega),List.getElem?_eq_getElem (by omega)⟩
   have hil:((i:Int) < (l.length:Int)):=by omega
   refine v_seq ?_;intro Q6 n6 e6 r6;refine v_seqR [0,1,6,19] ?_;intro K7 k7
   have F:=Fc.mk (And.intro hil (And.intro @decide_true (fun f=>getD_map (f:=f) hx)))
   refine zq54 ⟨?_⟩;refine zq52 ⟨?_⟩;refine zq58 ⟨?_⟩;refine k7 _ ?_;refine zk ⟨?_⟩;refine v_condS _ rfl ?_ ?_
   ·intro hc0
    have hls2:∀k x,l[k]? =some x→k < i+1→strLt x.1 s=true:=by
     intro k y hk hlt2
     rcases Nat.lt_or_ge k i with q | q
     ·exact hR k y hk q
     ·have e:k=i:=by omega
      subst e;rw [hx] at hk;cases hk;simpa using hc0
    refine v_skip ?_;refine n6 _ _ (weak_keep [0,1,6] _) ?_;refine zk ⟨?_⟩;refine v_block ?_;intro Q9 n9 x9 e9 r9;refine v_region ?_;intro K10 k10;refine zMove ⟨?_⟩;refine zq25 ⟨?_⟩;refine k10 _ ?_;refine n9 _ ?_;refine n5 _ (i+1) ?_ ?_ ?_
    ·refine weak_bothS [0,1,6] [] ⟨?_⟩
     rfl
    ·exact ⟨by omega,hls2⟩
    ·show _ < _;omega
   ·intro hc0
    refine v_exit ?_;refine e6 _ _ ?_;refine e5 _ _ ?_;refine x4 _ ?_;refine n3 _ _ (weak_keep [0,1,6] _) ?_;refine zk ⟨?_⟩;refine v_seq ?_;intro Q11 n11 e11 r11;refine v_draw (by kernel_rfl) ?_;intro K12 q12 k12
    show aAny _ _ _ _ 16 (Array.replicate 16 false) _
    refine zdMove q12 true 0 22 ?_;refine zdMove q12 true 1 23 ?_;refine zdMove q12 true 2 24 ?_;refine zdLen q12 true 3 25 ?_;refine zdBinOp q12 true 4 26 ?_;refine zdMove q12 true 5 27 ?_;refine zdgMove q12 true 6 28 ?_;refine zdgMove q12 true 7 29 ?_;refine zdgIndexAddr q12 true 8 30 ?_;refine zdgFieldAddr q12 true 9 31 ?_;refine zdgLoad q12 true 10 32 ?_;refine zdgMove q12 true 11 33 ?_;refine zdgBinOp q12 true 12 34 ?_;refine zdPick q12 true 13 35 ?_;refine zoAssign 14 ⟨?_⟩;refine zoAssign 15 ⟨?_⟩;refine aAny_done (by kernel_rfl) ?_;refine k12 _ ?_;refine n11 _ _ (weak_keep [4,5] _) ?_;refine zk ⟨?_⟩;refine v_ret ?_;refine r0 _ ?_;refine zf ⟨?_⟩
    obtain ⟨e1,e2⟩:=lb_stopA hx (by simpa using hc0) hR
    exact ret_pure rfl (by rw [←e1,e2]) (.inl rfl)
  ·skip
   have hil:¬((i:Int) < (l.length:Int)):=by omega
   refine v_seq ?_;intro Q13 n13 e13 r13;refine v_seqR [0,1,6,19] ?_;intro K14 k14
   have F:=Fc.mk (And.intro hil @decide_false)
   refine zq54 ⟨?_⟩;refine zq52 ⟨?_⟩;refine zq58 ⟨?_⟩;refine k14 _ ?_;refine zk ⟨?_⟩;refine v_cond _ rfl ?_ ?_
   ·intro hc0
    exfalso;simp at hc0
   ·intro hc0
    try simp only [zC,reduceCtorEq] at hc0
    refine v_exit ?_;refine e13 _ _ ?_;refine e5 _ _ ?_;refine x4 _ ?_;refine n3 _ _ (weak_keep [0,1,6] _) ?_;refine zk ⟨?_⟩;refine v_seq ?_;intro Q16 n16 e16 r16;refine v_draw (by kernel_rfl) ?_;intro K17 q17 k17
    show aAny _ _ _ _ 16 (Array.replicate 16 false) _
    refine zdMove q17 true 0 22 ?_;refine zdMove q17 true 1 23 ?_;refine zdMove q17 true 2 24 ?_;refine zdLen q17 true 3 25 ?_;refine zdBinOp q17 true 4 26 ?_;refine zdMove q17 true 5 27 ?_;refine zdgMove q17 true 6 28 ?_;refine zdgMove q17 true 7 29 ?_;refine zdgIndexAddr q17 true 8 30 ?_;refine zdgFieldAddr q17 true 9 31 ?_;refine zdgLoad q17 true 10 32 ?_;refine zdgMove q17 true 11 33 ?_;refine zdgBinOp q17 true 12 34 ?_;refine zdPick q17 true 13 35 ?_;refine zoAssign 14 ⟨?_⟩;refine zoAssign 15 ⟨?_⟩;refine aAny_done (by kernel_rfl) ?_;refine k17 _ ?_;refine n16 _ _ (weak_keep [4,5] _) ?_;refine zk ⟨?_⟩;refine v_ret ?_;refine r0 _ ?_;refine zf ⟨?_⟩
    obtain ⟨e1,e2⟩:=lb_endA (by omega) (by omega) hR
    exact ret_pure rfl (by rw [←e1,e2]) (.inl rfl)
set_option maxHeartbeats 1000000 in
theorem implDue_con (a:ByteArray) (l:List (ByteArray×Int×Int)) (day ev:Int) (ha:a.size≤9223372036854775807) (hl:l.length≤1048576) (hls:∀t∈l,t.1.size≤9223372036854775807):Con Tryd.prog 55 [.agg [.str a,.sl (l.map (fun t:ByteArray×Int×Int=>V.agg [V.str t.1,V.int .i64 t.2.1,V.int .i64 t.2.2]))],.int .i64 day,.int .i64 ev] [] (.tup [.ref 0,.bool (dueB a l day ev)]) [.arr ((orN (dueB a l day ev) (dueL l day ev)).map V.str) .flat]:=by
 refine v_con [.tmp 6,.tmp 7] [] Tryd.func55 rfl rfl rfl (by simp [Tryd.ntmps55]) ?_
 intro Q0 n0 r0
 simp only [Tryd.ntmps55,envFrom,Nat.reduceAdd]
 have T:=Tys.mk (And.intro Ty.t3 (And.intro Ty.t4 (And.intro Ty.t9 (And.intro Ty.t63 (And.intro Ty.t65 (And.intro Ty.t74 Ty.t93))))))
 have F:=Fc.mk True.intro
 refine v_seqR [1,2,3] ?_;intro K1 k1;refine zq43 ⟨?_⟩;refine k1 _ ?_;refine zk ⟨?_⟩;refine v_seq ?_;intro Q2 n2 e2 r2;refine v_seqR [1,2,3,23] ?_;intro K3 k3;refine zLoad ⟨?_⟩;refine zc (isLoad_con a l ha hl hls) ⟨?_⟩;refine zq18 ⟨?_⟩;refine zgc (isThingDay_con day) ⟨?_⟩;refine zq12 ⟨?_⟩;refine zq4 ⟨?_⟩;refine zgc (inside_con ev 1 1000) ⟨?_⟩;refine zq12 ⟨?_⟩;refine k3 _ ?_;refine zk ⟨?_⟩;refine v_condS _ rfl ?_ ?_
 ·intro hc0
  have hB:(dueB a l day ev)=false:=by
   revert hc0
   unfold dueB inD
   by_cases q1:0≤day<;>by_cases q2:day≤9999<;>by_cases q3:1≤ev<;>by_cases q4:ev≤1000<;>cases nameB a<;>cases thsB l<;>simp [q1,q2,q3,q4]<;>(try omega)
  refine v_seqR [6,7] ?_;intro K5 k5;refine zq1 ⟨?_⟩;refine k5 _ ?_;refine zk ⟨?_⟩;refine v_ret ?_;refine r2 _ ?_;refine r0 _ ?_;refine zf ⟨?_⟩
  simp only [hB,orN_f,List.map_nil]
  exact ret_ref_tup rfl rfl rfl (.inl rfl)
 ·intro hc0
  have hB:(dueB a l day ev)=true:=by
   revert hc0
   unfold dueB inD
   by_cases q1:0≤day<;>by_cases q2:day≤9999<;>by_cases q3:1≤ev<;>by_cases q4:ev≤1000<;>cases nameB a<;>cases thsB l<;>simp [q1,q2,q3,q4]<;>(try omega)
  have hB2:=hB
  simp only [dueB,inD,Bool.and_eq_true,decide_eq_true_eq] at hB2
  obtain ⟨⟨⟨hn0,hk0⟩,hd1,hd2⟩,he1,he2⟩:=hB2
  have hk:=(ths_iff _).1 hk0
  have hk12:=hk.len
  refine v_skip ?_;refine n2 _ _ (weak_keep [1,2,3] _) ?_;refine zk ⟨?_⟩;refine v_seqR [1,2,3,8] ?_;intro K6 k6;refine zAssign ⟨?_⟩;refine k6 _ ?_;refine zk ⟨?_⟩;refine v_seq ?_;intro Q7 n7 e7 r7;refine v_seqR [1,2,8,25,26,27] ?_;intro K8 k8;refine zq2 ⟨?_⟩;refine zq46 ⟨?_⟩;refine k8 _ ?_;refine zk ⟨?_⟩;refine v_block ?_;intro Q9 n9 x9 e9 r9;refine v_loop (fun i=>⟨[(1,.int .i64 day),(2,.int .i64 ev),(8,.ref 0),(25,.sl (l.map (fun t:ByteArray×Int×Int=>V.agg [V.str t.1,V.int .i64 t.2.1,V.int .i64 t.2.2]))),(26,.int .i64 l.length),(27,.int .i64 (Nat.cast i))],[.arr ((dueL (l.take i) day ev).map V.str) .flat],false,44,0⟩) (fun i=>i≤l.length) (fun i=>l.length - i) 0 ?_ ?_ ?_
  ·refine weak_bothS [1,2,8,25,26,27] [2] ⟨?_⟩
   rfl
  ·exact Nat.zero_le _
  ·rintro i hok10 Q10 n10 e10 r10
   have hi1:i≤l.length:=hok10
   refine v_seqR [1,2,8,25,26,27,28] ?_;intro K11 k11;refine zBinOp ⟨?_⟩;refine k11 _ ?_;refine zk ⟨?_⟩;refine v_seq ?_;intro Q12 n12 e12 r12;refine v_condS _ rfl ?_ ?_
   ·intro hc1
    have hlt:i < l.length:=by omega
    obtain ⟨⟨x0,x1,x2⟩,hx⟩:∃x:ByteArray×Int×Int,l[i]? =some x:=⟨l[i]'(by omega),List.getElem?_eq_getElem (by omega)⟩
    have hxo:=(hk.ok _ (List.mem_of_getElem? hx)).2.2
    simp only [] at hxo
    have hdl:(dueL (l.take i) day ev).length≤12:=Nat.le_trans (dueL_len _ _ _) (by rw [List.length_take];omega)
    refine v_skip ?_;refine n12 _ _ (weak_keep [1,2,8,25,26,27] _) ?_;refine zk ⟨?_⟩;refine v_seq ?_;intro Q14 n14 e14 r14;refine v_block ?_;intro Q15 n15 x15 e15 r15;refine v_seqR [1,2,8,10,25,26,27] ?_;intro K16 k16
    have F:=Fc.mk (fun f=>getD_map (f:=f) hx)
    refine zq23 ⟨?_⟩;refine k16 _ ?_;refine zk ⟨?_⟩;refine v_seqR [1,2,8,10,25,26,27,36] ?_;intro K17 k17;refine zq31 ⟨?_⟩;refine zq6 ⟨?_⟩;refine zBinOp ⟨?_⟩;refine k17 _ ?_;refine zk ⟨?_⟩;refine v_condS _ rfl ?_ ?_
    ·intro hc2
     have hst:(dueL (l.take i) day ev).map V.str++[V.str x0]=(dueL (l.take (i+1)) day ev).map V.str:=by rw [dueL_yes hx (by first | omega | (have h:=hc2;simp at h⊢;omega)),List.map_append];rfl
     refine v_region ?_;intro K19 k19;refine zq31 ⟨?_⟩;refine zq35 ⟨?_⟩;refine k19 _ ?_;refine n15 _ ?_;refine n14 _ _ (weak_keep [1,2,8,25,26,27] _) ?_;refine zk ⟨?_⟩;refine v_region ?_;intro K20 k20;refine zq6 ⟨?_⟩;refine k20 _ ?_;refine n10 _ (i+1) ?_ ?_ ?_
     ·refine weak_bothS [1,2,8,25,26,27] [3] ⟨?_⟩
      rw [←hst];rfl
     ·exact hlt
     ·show _ < _;omega
    ·intro hc2
     have hst:(dueL (l.take i) day ev)=(dueL (l.take (i+1)) day ev):=(dueL_no hx (by first | omega | (have h:=hc2;simp at h⊢;omega))).symm
     refine v_skip ?_;refine n15 _ ?_;refine n14 _ _ (weak_keep [1,2,8,25,26,27] _) ?_;refine zk ⟨?_⟩;refine v_region ?_;intro K21 k21;refine zq6 ⟨?_⟩;refine k21 _ ?_;refine n10 _ (i+1) ?_ ?_ ?_
     ·refine weak_bothS [1,2,8,25,26,27] [0] ⟨?_⟩
      rw [←hst];rfl
     ·exact hlt
     ·show _ < _;omega
   ·intro hc1
    have hie:l.take i=l:=List.take_of_length_le (by omega)
    rw [hie]
    refine v_exit ?_;refine e12 _ _ ?_;refine e10 _ _ ?_;refine x9 _ ?_;refine n7 _ _ (weak_keep [8] _) ?_;refine zk ⟨?_⟩;refine v_seqR [6,7] ?_;intro K22 k22;refine zq41 ⟨?_⟩;refine k22 _ ?_;refine zk ⟨?_⟩;refine v_ret ?_;refine r0 _ ?_;refine zf ⟨?_⟩
    simp only [hB,orN_t]
    exact ret_ref_tup rfl rfl rfl (.inl rfl)
set_option maxHeartbeats 1000000 in
theorem specDue_con (a:ByteArray) (l:List (ByteArray×Int×Int)) (day ev:Int) (ha:a.size≤9223372036854775807) (hl:l.length≤1048576) (hls:∀t∈l,t.1.size≤9223372036854775807):Con Tryd.prog 56 [.agg [.str a,.sl (l.map (fun t:ByteArray×Int×Int=>V.agg [V.str t.1,V.int .i64 t.2.1,V.int .i64 t.2.2]))],.int .i64 day,.int .i64 ev] [] (.tup [.ref 0,.bool (dueB a l day ev)]) [.arr ((orN (dueB a l day ev) (dueL l day ev)).map V.str) .flat]:=by
 refine v_con [.tmp 6,.tmp 7] [] Tryd.func56 rfl rfl rfl (by simp [Tryd.ntmps56]) ?_
 intro Q0 n0 r0
 simp only [Tryd.ntmps56,envFrom,Nat.reduceAdd]
 have T:=Tys.mk (And.intro Ty.t3 (And.intro Ty.t4 (And.intro Ty.t9 (And.intro Ty.t63 (And.intro Ty.t65 (And.intro Ty.t74 Ty.t93))))))
 have F:=Fc.mk True.intro
 refine v_seqR [1,2,3] ?_;intro K1 k1;refine zq43 ⟨?_⟩;refine k1 _ ?_;refine zk ⟨?_⟩;refine v_seq ?_;intro Q2 n2 e2 r2;refine v_seqR [1,2,3,23] ?_;intro K3 k3;refine zLoad ⟨?_⟩;refine zc (eqLoad_con a l ha hl hls) ⟨?_⟩;refine zq18 ⟨?_⟩;refine zgc (eqDay_con day) ⟨?_⟩;refine zq12 ⟨?_⟩;refine zq4 ⟨?_⟩;refine zgc (l1In_con ev 1 1000) ⟨?_⟩;refine zq12 ⟨?_⟩;refine k3 _ ?_;refine zk ⟨?_⟩;refine v_condS _ rfl ?_ ?_
 ·intro hc0
  have hB:(dueB a l day ev)=false:=by
   revert hc0
   unfold dueB inD
   by_cases q1:0≤day<;>by_cases q2:day≤9999<;>by_cases q3:1≤ev<;>by_cases q4:ev≤1000<;>cases nameB a<;>cases thsB l<;>simp [q1,q2,q3,q4]<;>(try omega)
  refine v_seqR [6,7] ?_;intro K5 k5;refine zq1 ⟨?_⟩;refine k5 _ ?_;refine zk ⟨?_⟩;refine v_ret ?_;refine r2 _ ?_;refine r0 _ ?_;refine zf ⟨?_⟩
  simp only [hB,orN_f,List.map_nil]
  exact ret_ref_tup rfl rfl rfl (.inl rfl)
 ·intro hc0
  have hB:(dueB a l day ev)=true:=by
   revert hc0
   unfold dueB inD
   by_cases q1:0≤day<;>by_cases q2:day≤9999<;>by_cases q3:1≤ev<;>by_cases q4:ev≤1000<;>cases nameB a<;>cases thsB l<;>simp [q1,q2,q3,q4]<;>(try omega)
  have hB2:=hB
  simp only [dueB,inD,Bool.and_eq_true,decide_eq_true_eq] at hB2
  obtain ⟨⟨⟨hn0,hk0⟩,hd1,hd2⟩,he1,he2⟩:=hB2
  have hk:=(ths_iff _).1 hk0
  have hk12:=hk.len
  refine v_skip ?_;refine n2 _ _ (weak_keep [1,2,3] _) ?_;refine zk ⟨?_⟩;refine v_seqR [1,2,3,8] ?_;intro K6 k6;refine zAssign ⟨?_⟩;refine k6 _ ?_;refine zk ⟨?_⟩;refine v_seq ?_;intro Q7 n7 e7 r7;refine v_seqR [1,2,8,25,26,27] ?_;intro K8 k8;refine zq2 ⟨?_⟩;refine zq46 ⟨?_⟩;refine k8 _ ?_;refine zk ⟨?_⟩;refine v_block ?_;intro Q9 n9 x9 e9 r9;refine v_loop (fun i=>⟨[(1,.int .i64 day),(2,.int .i64 ev),(8,.ref 0),(25,.sl (l.map (fun t:ByteArray×Int×Int=>V.agg [V.str t.1,V.int .i64 t.2.1,V.int .i64 t.2.2]))),(26,.int .i64 l.length),(27,.int .i64 (Nat.cast i))],[.arr ((dueL (l.take i) day ev).map V.str) .flat],false,44,0⟩) (fun i=>i≤l.length) (fun i=>l.length - i) 0 ?_ ?_ ?_
  ·refine weak_bothS [1,2,8,25,26,27] [2] ⟨?_⟩
   rfl
  ·exact Nat.zero_le _
  ·rintro i hok10 Q10 n10 e10 r10
   have hi1:i≤l.length:=hok10
   refine v_seqR [1,2,8,25,26,27,28] ?_;intro K11 k11;refine zBinOp ⟨?_⟩;refine k11 _ ?_;refine zk ⟨?_⟩;refine v_seq ?_;intro Q12 n12 e12 r12;refine v_condS _ rfl ?_ ?_
   ·intro hc1
    have hlt:i < l.length:=by omega
    obtain ⟨⟨x0,x1,x2⟩,hx⟩:∃x:ByteArray×Int×Int,l[i]? =some x:=⟨l[i]'(by omega),List.getElem?_eq_getElem (by omega)⟩
    have hxo:=(hk.ok _ (List.mem_of_getElem? hx)).2.2
    simp only [] at hxo
    have hdl:(dueL (l.take i) day ev).length≤12:=Nat.le_trans (dueL_len _ _ _) (by rw [List.length_take];omega)
    refine v_skip ?_;refine n12 _ _ (weak_keep [1,2,8,25,26,27] _) ?_;refine zk ⟨?_⟩;refine v_seq ?_;intro Q14 n14 e14 r14;refine v_block ?_;intro Q15 n15 x15 e15 r15;refine v_seqR [1,2,8,10,25,26,27] ?_;intro K16 k16
    have F:=Fc.mk (fun f=>getD_map (f:=f) hx)
    refine zq23 ⟨?_⟩;refine k16 _ ?_;refine zk ⟨?_⟩;refine v_seqR [1,2,8,10,25,26,27,36] ?_;intro K17 k17;refine zq31 ⟨?_⟩;refine zq6 ⟨?_⟩;refine zBinOp ⟨?_⟩;refine k17 _ ?_;refine zk ⟨?_⟩;refine v_condS _ rfl ?_ ?_
    ·intro hc2
     have hst:(dueL (l.take i) day ev).map V.str++[V.str x0]=(dueL (l.take (i+1)) day ev).map V.str:=by rw [dueL_yes hx (by first | omega | (have h:=hc2;simp at h⊢;omega)),List.map_append];rfl
     refine v_region ?_;intro K19 k19;refine zq31 ⟨?_⟩;refine zq35 ⟨?_⟩;refine k19 _ ?_;refine n15 _ ?_;refine n14 _ _ (weak_keep [1,2,8,25,26,27] _) ?_;refine zk ⟨?_⟩;refine v_region ?_;intro K20 k20;refine zq6 ⟨?_⟩;refine k20 _ ?_;refine n10 _ (i+1) ?_ ?_ ?_
     ·refine weak_bothS [1,2,8,25,26,27] [3] ⟨?_⟩
      rw [←hst];rfl
     ·exact hlt
     ·show _ < _;omega
    ·intro hc2
     have hst:(dueL (l.take i) day ev)=(dueL (l.take (i+1)) day ev):=(dueL_no hx (by first | omega | (have h:=hc2;simp at h⊢;omega))).symm
     refine v_skip ?_;refine n15 _ ?_;refine n14 _ _ (weak_keep [1,2,8,25,26,27] _) ?_;refine zk ⟨?_⟩;refine v_region ?_;intro K21 k21;refine zq6 ⟨?_⟩;refine k21 _ ?_;refine n10 _ (i+1) ?_ ?_ ?_
     ·refine weak_bothS [1,2,8,25,26,27] [0] ⟨?_⟩
      rw [←hst];rfl
     ·exact hlt
     ·show _ < _;omega
   ·intro hc1
    have hie:l.take i=l:=List.take_of_length_le (by omega)
    rw [hie]
    refine v_exit ?_;refine e12 _ _ ?_;refine e10 _ _ ?_;refine x9 _ ?_;refine n7 _ _ (weak_keep [8] _) ?_;refine zk ⟨?_⟩;refine v_seqR [6,7] ?_;intro K22 k22;refine zq41 ⟨?_⟩;refine k22 _ ?_;refine zk ⟨?_⟩;refine v_ret ?_;refine r0 _ ?_;refine zf ⟨?_⟩
    simp only [hB,orN_t]
    exact ret_ref_tup rfl rfl rfl (.inl rfl)
set_option maxHeartbeats 1000000 in
theorem implChk_con (a:ByteArray) (l:List (ByteArray×Int×Int)) (s:ByteArray) (day:Int) (ha:a.size≤9223372036854775807) (hl:l.length≤1048576) (hls:∀t∈l,t.1.size≤9223372036854775807):Con Tryd.prog 58 [.agg [.str a,.sl (l.map (fun t:ByteArray×Int×Int=>V.agg [V.str t.1,V.int .i64 t.2.1,V.int .i64 t.2.2]))],.str s,.int .i64 day] [] (.tup [.agg [.str (orS (chkB a l s day) a),.ref 0],.bool (chkB a l s day)]) [.arr ((orN (chkB a l s day) (chkL l s day)).map (fun t:ByteArray×Int×Int=>V.agg [V.str t.1,V.int .i64 t.2.1,V.int .i64 t.2.2])) .flat]:=by
 refine v_con [.cell 6 65,.tmp 7] [] Tryd.func58 rfl rfl rfl (by simp [Tryd.ntmps58]) ?_
 intro Q0 n0 r0
 simp only [Tryd.ntmps58,envFrom,Nat.reduceAdd]
 have T:=Tys.mk (And.intro Ty.t3 (And.intro Ty.t4 (And.intro Ty.t9 (And.intro Ty.t63 (And.intro Ty.t65 Ty.t93)))))
 have F:=Fc.mk True.intro
 rcases chk_split l s with hk0 | ⟨hk0,hth,hat⟩ | ⟨⟨y0,y1,y2⟩,hk0,hth,hat,hy⟩
 ·skip
  have hB0:(chkB a l s day)=false:=by unfold chkB;rw [hk0];simp
  refine v_seqR [1,2,3,6] ?_;intro K1 k1
  have F:=Fc.mk (And.intro hk0 (And.intro @Bool.and_false @Bool.not_false))
  refine zq61 ⟨?_⟩;refine k1 _ ?_;refine zk ⟨?_⟩;refine v_seqR [2,3,6,8] ?_;intro K2 k2;refine zq11 ⟨?_⟩;refine zc (thingAt_con l s hl) ⟨?_⟩;refine zAssign ⟨?_⟩;refine k2 _ ?_;refine zk ⟨?_⟩;refine v_seq ?_;intro Q3 n3 e3 r3;refine v_seqR [2,3,6,8,25] ?_;intro K4 k4;refine zLoad ⟨?_⟩;refine zc (isLoad_con a l ha hl hls) ⟨?_⟩;refine zq18 ⟨?_⟩;refine zq8 ⟨?_⟩;refine zq4 ⟨?_⟩;refine zgc (isThingDay_con day) ⟨?_⟩;refine zq12 ⟨?_⟩;refine k4 _ ?_;refine zk ⟨?_⟩;refine v_cond _ rfl ?_ ?_
  ·intro hc0
   try simp only [zC,reduceCtorEq] at hc0
   have hB:(chkB a l s day)=false:=by
    first
    |exact hB0
    |(
     revert hc0
     unfold chkB inD
     by_cases q1:0≤day<;>by_cases q2:day≤9999<;>cases nameB a<;>simp [q1,q2,hk0,hth]<;>(try omega))
   refine v_seqR [6,7] ?_;intro K6 k6;refine zq57 ⟨?_⟩;refine k6 _ ?_;refine zk ⟨?_⟩;refine v_ret ?_;refine r3 _ ?_;refine r0 _ ?_;refine zf ⟨?_⟩
   simp only [zE,zL,zO,zN,aStepM,optable,set_some,Nat.reduceEqDiff,reduceIte,Nat.reduceLT,implies_true,forall_const,reduceCtorEq,V.ofValue,V.ofScalar,V.un,V.gd,aLoad,row_mk,Blk.row,PartOK,Go.Vm.part,V.cells,V.noSl,V.noRef,Nat.reduceAdd,Nat.reduceLeDiff,Nat.reduceMul,Tryd.underlying9,Ty.c9,Ty.a9,Tryd.underlying63,Ty.c63,Ty.a63,Tryd.underlying65,Ty.c65,Ty.a65]
   simp only [hB,orS,orN_f,Bool.false_eq_true,if_false,List.map_nil]
   exact ret_all rfl (by first | decide | simp [newIds,refsOf,refs2,refs1]) (by simp) rfl (by simp [newIds,refsOf,refs2,refs1]) (by simp [Blk.kindIs,fillK_fd]) rfl
  ·intro hc0
   exfalso;simp at hc0
 ·skip
  have hB0:(chkB a l s day)=false:=by unfold chkB;rw [hth];simp
  refine v_seqR [1,2,3,6] ?_;intro K7 k7
  have F:=Fc.mk (And.intro hk0 (And.intro hth hat))
  refine zq61 ⟨?_⟩;refine k7 _ ?_;refine zk ⟨?_⟩;refine v_seqR [2,3,6,8] ?_;intro K8 k8;refine zq11 ⟨?_⟩;refine zc (thingAt_con l s hl) ⟨?_⟩;refine zAssign ⟨?_⟩;refine k8 _ ?_;refine zk ⟨?_⟩;refine v_seq ?_;intro Q9 n9 e9 r9;refine v_seqR [2,3,6,8,25] ?_;intro K10 k10;refine zLoad ⟨?_⟩;refine zc (isLoad_con a l ha hl hls) ⟨?_⟩;refine zq18 ⟨?_⟩;refine zq8 ⟨?_⟩;refine zq4 ⟨?_⟩;refine zgc (isThingDay_con day) ⟨?_⟩;refine zq12 ⟨?_⟩;refine k10 _ ?_;refine zk ⟨?_⟩;refine v_cond _ rfl ?_ ?_
  ·intro hc0
   try simp only [zC,reduceCtorEq] at hc0
   have hB:(chkB a l s day)=false:=by
    first
    |exact hB0
    |(
     revert hc0
     unfold chkB inD
     by_cases q1:0≤day<;>by_cases q2:day≤9999<;>cases nameB a<;>simp [q1,q2,hk0,hth]<;>(try omega))
   refine v_seqR [6,7] ?_;intro K12 k12;refine zq57 ⟨?_⟩;refine k12 _ ?_;refine zk ⟨?_⟩;refine v_ret ?_;refine r9 _ ?_;refine r0 _ ?_;refine zf ⟨?_⟩
   simp only [zE,zL,zO,zN,aStepM,optable,set_some,Nat.reduceEqDiff,reduceIte,Nat.reduceLT,implies_true,forall_const,reduceCtorEq,V.ofValue,V.ofScalar,V.un,V.gd,aLoad,row_mk,Blk.row,PartOK,Go.Vm.part,V.cells,V.noSl,V.noRef,Nat.reduceAdd,Nat.reduceLeDiff,Nat.reduceMul,Tryd.underlying9,Ty.c9,Ty.a9,Tryd.underlying63,Ty.c63,Ty.a63,Tryd.underlying65,Ty.c65,Ty.a65]
   simp only [hB,orS,orN_f,Bool.false_eq_true,if_false,List.map_nil]
   exact ret_all rfl (by first | decide | simp [newIds,refsOf,refs2,refs1]) (by simp) rfl (by simp [newIds,refsOf,refs2,refs1]) (by simp [Blk.kindIs,fillK_fd]) rfl
  ·intro hc0
   exfalso;simp at hc0
 ·skip
  have hkl:=(List.getElem?_eq_some_iff.1 hy).1
  have hk12:=((ths_iff _).1 hk0).len
  refine v_seqR [1,2,3,6] ?_;intro K13 k13
  have F:=Fc.mk (And.intro hk0 (And.intro hth (And.intro hat (And.intro @Int.toNat_natCast (And.intro (fun f=>getD_map (f:=f) hy) @setat_Thing)))))
  refine zq61 ⟨?_⟩;refine k13 _ ?_;refine zk ⟨?_⟩;refine v_seqR [2,3,6,8] ?_;intro K14 k14;refine zq11 ⟨?_⟩;refine zc (thingAt_con l s hl) ⟨?_⟩;refine zAssign ⟨?_⟩;refine k14 _ ?_;refine zk ⟨?_⟩;refine v_seq ?_;intro Q15 n15 e15 r15;refine v_seqR [2,3,6,8,25] ?_;intro K16 k16;refine zLoad ⟨?_⟩;refine zc (isLoad_con a l ha hl hls) ⟨?_⟩;refine zq18 ⟨?_⟩;refine zq8 ⟨?_⟩;refine zq4 ⟨?_⟩;refine zgc (isThingDay_con day) ⟨?_⟩;refine zq12 ⟨?_⟩;refine k16 _ ?_;refine zk ⟨?_⟩;refine v_condS _ rfl ?_ ?_
  ·intro hc0
   have hB:(chkB a l s day)=false:=by
    first
    |exact hB0
    |(
     revert hc0
     unfold chkB inD
     by_cases q1:0≤day<;>by_cases q2:day≤9999<;>cases nameB a<;>simp [q1,q2,hk0,hth]<;>(try omega))
   refine v_seqR [6,7] ?_;intro K18 k18;refine zq57 ⟨?_⟩;refine k18 _ ?_;refine zk ⟨?_⟩;refine v_ret ?_;refine r15 _ ?_;refine r0 _ ?_;refine zf ⟨?_⟩
   simp only [zE,zL,zO,zN,aStepM,optable,set_some,Nat.reduceEqDiff,reduceIte,Nat.reduceLT,implies_true,forall_const,reduceCtorEq,V.ofValue,V.ofScalar,V.un,V.gd,aLoad,row_mk,Blk.row,PartOK,Go.Vm.part,V.cells,V.noSl,V.noRef,Nat.reduceAdd,Nat.reduceLeDiff,Nat.reduceMul,Tryd.underlying9,Ty.c9,Ty.a9,Tryd.underlying63,Ty.c63,Ty.a63,Tryd.underlying65,Ty.c65,Ty.a65]
   simp only [hB,orS,orN_f,Bool.false_eq_true,if_false,List.map_nil]
   exact ret_all rfl (by first | decide | simp [newIds,refsOf,refs2,refs1]) (by simp) rfl (by simp [newIds,refsOf,refs2,refs1]) (by simp [Blk.kindIs,fillK_fd]) rfl
  ·intro hc0
   have hB:(chkB a l s day)=true:=by
    revert hc0
    unfold chkB inD
    by_cases q1:0≤day<;>by_cases q2:day≤9999<;>cases nameB a<;>simp [q1,q2,hk0,hth]<;>(try omega)
   have hcl:=chkL_at (day:=day) hy
   simp only [] at hcl
   refine v_skip ?_;refine n15 _ _ (weak_keep [2,3,6,8] _) ?_;refine zk ⟨?_⟩;refine v_seqR [2,6,8,9] ?_;intro K19 k19;refine zLoad ⟨?_⟩;refine zc (copyLoad_con a l hl) ⟨?_⟩;refine zq10 ⟨?_⟩;refine k19 _ ?_;refine zk ⟨?_⟩;refine v_seqR [6,9] ?_;intro K20 k20;refine zq2 ⟨?_⟩;refine zq55 ⟨?_⟩;refine zq24 ⟨?_⟩;refine k20 _ ?_;refine zk ⟨?_⟩;refine v_seqR [6,7] ?_;intro K21 k21;refine zLoad ⟨?_⟩;refine zq27 ⟨?_⟩;refine k21 _ ?_;refine zk ⟨?_⟩;refine v_ret ?_;refine r0 _ ?_;refine zf ⟨?_⟩
   simp only [zE,zL,zO,zN,aStepM,optable,set_some,Nat.reduceEqDiff,reduceIte,Nat.reduceLT,implies_true,forall_const,reduceCtorEq,V.ofValue,V.ofScalar,V.un,V.gd,aLoad,row_mk,Blk.row,PartOK,Go.Vm.part,V.cells,V.noSl,V.noRef,Nat.reduceAdd,Nat.reduceLeDiff,Nat.reduceMul,Tryd.underlying9,Ty.c9,Ty.a9,Tryd.underlying63,Ty.c63,Ty.a63,Tryd.underlying65,Ty.c65,Ty.a65]
   simp only [hB,orS,if_true,orN_t]
   rw [hcl]
   exact ret_all rfl (by first | decide | simp [newIds,refsOf,refs2,refs1]) (by simp) rfl (by simp [newIds,refsOf,refs2,refs1]) (by simp [Blk.kindIs,fillK_fd]) rfl
set_option maxHeartbeats 1000000 in
theorem specChk_con (a:ByteArray) (l:List (ByteArray×Int×Int)) (s:ByteArray) (day:Int) (ha:a.size≤9223372036854775807) (hl:l.length≤1048576) (hls:∀t∈l,t.1.size≤9223372036854775807):Con Tryd.prog 59 [.agg [.str a,.sl (l.map (fun t:ByteArray×Int×Int=>V.agg [V.str t.1,V.int .i64 t.2.1,V.int .i64 t.2.2]))],.str s,.int .i64 day] [] (.tup [.agg [.str (orS (chkB a l s day) a),.ref 0],.bool (chkB a l s day)]) [.arr ((orN (chkB a l s day) (chkL l s day)).map (fun t:ByteArray×Int×Int=>V.agg [V.str t.1,V.int .i64 t.2.1,V.int .i64 t.2.2])) .flat]:=by
 refine v_con [.cell 6 65,.tmp 7] [] Tryd.func59 rfl rfl rfl (by simp [Tryd.ntmps59]) ?_
 intro Q0 n0 r0
 simp only [Tryd.ntmps59,envFrom,Nat.reduceAdd]
 have T:=Tys.mk (And.intro Ty.t3 (And.intro Ty.t4 (And.intro Ty.t9 (And.intro Ty.t63 (And.intro Ty.t65 Ty.t93)))))
 have F:=Fc.mk True.intro
 rcases chk_split l s with hk0 | ⟨hk0,hth,hat⟩ | ⟨⟨y0,y1,y2⟩,hk0,hth,hat,hy⟩
 ·skip
  have hB0:(chkB a l s day)=false:=by unfold chkB;rw [hk0];simp
  refine v_seqR [1,2,3,6] ?_;intro K1 k1
  have F:=Fc.mk (And.intro hk0 (And.intro @Bool.and_false @Bool.not_false))
  refine zq61 ⟨?_⟩;refine k1 _ ?_;refine zk ⟨?_⟩;refine v_seqR [2,3,6,8,9] ?_;intro K2 k2;refine zq11 ⟨?_⟩;refine zc (eqFindA_con l s hl) ⟨?_⟩;refine zq16 ⟨?_⟩;refine k2 _ ?_;refine zk ⟨?_⟩;refine v_seq ?_;intro Q3 n3 e3 r3;refine v_seqR [2,3,6,8,30] ?_;intro K4 k4;refine zLoad ⟨?_⟩;refine zc (eqLoad_con a l ha hl hls) ⟨?_⟩;refine zq18 ⟨?_⟩;refine zgc (eqDay_con day) ⟨?_⟩;refine zq12 ⟨?_⟩;refine zq4 ⟨?_⟩;refine zq12 ⟨?_⟩;refine k4 _ ?_;refine zk ⟨?_⟩;refine v_cond _ rfl ?_ ?_
  ·intro hc0
   try simp only [zC,reduceCtorEq] at hc0
   have hB:(chkB a l s day)=false:=by
    first
    |exact hB0
    |(
     revert hc0
     unfold chkB inD
     by_cases q1:0≤day<;>by_cases q2:day≤9999<;>cases nameB a<;>simp [q1,q2,hk0,hth]<;>(try omega))
   refine v_seqR [6,7] ?_;intro K6 k6;refine zq57 ⟨?_⟩;refine k6 _ ?_;refine zk ⟨?_⟩;refine v_ret ?_;refine r3 _ ?_;refine r0 _ ?_;refine zf ⟨?_⟩
   simp only [zE,zL,zO,zN,aStepM,optable,set_some,Nat.reduceEqDiff,reduceIte,Nat.reduceLT,implies_true,forall_const,reduceCtorEq,V.ofValue,V.ofScalar,V.un,V.gd,aLoad,row_mk,Blk.row,PartOK,Go.Vm.part,V.cells,V.noSl,V.noRef,Nat.reduceAdd,Nat.reduceLeDiff,Nat.reduceMul,Tryd.underlying9,Ty.c9,Ty.a9,Tryd.underlying63,Ty.c63,Ty.a63,Tryd.underlying65,Ty.c65,Ty.a65]
   simp only [hB,orS,orN_f,Bool.false_eq_true,if_false,List.map_nil]
   exact ret_all rfl (by first | decide | simp [newIds,refsOf,refs2,refs1]) (by simp) rfl (by simp [newIds,refsOf,refs2,refs1]) (by simp [Blk.kindIs,fillK_fd]) rfl
  ·intro hc0
   exfalso;simp at hc0
 ·skip
  have hB0:(chkB a l s day)=false:=by unfold chkB;rw [hth];simp
  refine v_seqR [1,2,3,6] ?_;intro K7 k7
  have F:=Fc.mk (And.intro hk0 (And.intro hth hat))
  refine zq61 ⟨?_⟩;refine k7 _ ?_;refine zk ⟨?_⟩;refine v_seqR [2,3,6,8,9] ?_;intro K8 k8;refine zq11 ⟨?_⟩;refine zc (eqFindA_con l s hl) ⟨?_⟩;refine zq16 ⟨?_⟩;refine k8 _ ?_;refine zk ⟨?_⟩;refine v_seq ?_;intro Q9 n9 e9 r9;refine v_seqR [2,3,6,8,30] ?_;intro K10 k10;refine zLoad ⟨?_⟩;refine zc (eqLoad_con a l ha hl hls) ⟨?_⟩;refine zq18 ⟨?_⟩;refine zgc (eqDay_con day) ⟨?_⟩;refine zq12 ⟨?_⟩;refine zq4 ⟨?_⟩;refine zq12 ⟨?_⟩;refine k10 _ ?_;refine zk ⟨?_⟩;refine v_cond _ rfl ?_ ?_
  ·intro hc0
   try simp only [zC,reduceCtorEq] at hc0
   have hB:(chkB a l s day)=false:=by
    first
    |exact hB0
    |(
     revert hc0
     unfold chkB inD
     by_cases q1:0≤day<;>by_cases q2:day≤9999<;>cases nameB a<;>simp [q1,q2,hk0,hth]<;>(try omega))
   refine v_seqR [6,7] ?_;intro K12 k12;refine zq57 ⟨?_⟩;refine k12 _ ?_;refine zk ⟨?_⟩;refine v_ret ?_;refine r9 _ ?_;refine r0 _ ?_;refine zf ⟨?_⟩
   simp only [zE,zL,zO,zN,aStepM,optable,set_some,Nat.reduceEqDiff,reduceIte,Nat.reduceLT,implies_true,forall_const,reduceCtorEq,V.ofValue,V.ofScalar,V.un,V.gd,aLoad,row_mk,Blk.row,PartOK,Go.Vm.part,V.cells,V.noSl,V.noRef,Nat.reduceAdd,Nat.reduceLeDiff,Nat.reduceMul,Tryd.underlying9,Ty.c9,Ty.a9,Tryd.underlying63,Ty.c63,Ty.a63,Tryd.underlying65,Ty.c65,Ty.a65]
   simp only [hB,orS,orN_f,Bool.false_eq_true,if_false,List.map_nil]
   exact ret_all rfl (by first | decide | simp [newIds,refsOf,refs2,refs1]) (by simp) rfl (by simp [newIds,refsOf,refs2,refs1]) (by simp [Blk.kindIs,fillK_fd]) rfl
  ·intro hc0
   exfalso;simp at hc0
 ·skip
  have hkl:=(List.getElem?_eq_some_iff.1 hy).1
  have hk12:=((ths_iff _).1 hk0).len
  refine v_seqR [1,2,3,6] ?_;intro K13 k13
  have F:=Fc.mk (And.intro hk0 (And.intro hth (And.intro hat (And.intro @Int.toNat_natCast (And.intro (fun f=>getD_map (f:=f) hy) @setat_Thing)))))
  refine zq61 ⟨?_⟩;refine k13 _ ?_;refine zk ⟨?_⟩;refine v_seqR [2,3,6,8,9] ?_;intro K14 k14;refine zq11 ⟨?_⟩;refine zc (eqFindA_con l s hl) ⟨?_⟩;refine zq16 ⟨?_⟩;refine k14 _ ?_;refine zk ⟨?_⟩;refine v_seq ?_;intro Q15 n15 e15 r15;refine v_seqR [2,3,6,8,30] ?_;intro K16 k16;refine zLoad ⟨?_⟩;refine zc (eqLoad_con a l ha hl hls) ⟨?_⟩;refine zq18 ⟨?_⟩;refine zgc (eqDay_con day) ⟨?_⟩;refine zq12 ⟨?_⟩;refine zq4 ⟨?_⟩;refine zq12 ⟨?_⟩;refine k16 _ ?_;refine zk ⟨?_⟩;refine v_condS _ rfl ?_ ?_
  ·intro hc0
   have hB:(chkB a l s day)=false:=by
    first
    |exact hB0
    |(
     revert hc0
     unfold chkB inD
     by_cases q1:0≤day<;>by_cases q2:day≤9999<;>cases nameB a<;>simp [q1,q2,hk0,hth]<;>(try omega))
   refine v_seqR [6,7] ?_;intro K18 k18;refine zq57 ⟨?_⟩;refine k18 _ ?_;refine zk ⟨?_⟩;refine v_ret ?_;refine r15 _ ?_;refine r0 _ ?_;refine zf ⟨?_⟩
   simp only [zE,zL,zO,zN,aStepM,optable,set_some,Nat.reduceEqDiff,reduceIte,Nat.reduceLT,implies_true,forall_const,reduceCtorEq,V.ofValue,V.ofScalar,V.un,V.gd,aLoad,row_mk,Blk.row,PartOK,Go.Vm.part,V.cells,V.noSl,V.noRef,Nat.reduceAdd,Nat.reduceLeDiff,Nat.reduceMul,Tryd.underlying9,Ty.c9,Ty.a9,Tryd.underlying63,Ty.c63,Ty.a63,Tryd.underlying65,Ty.c65,Ty.a65]
   simp only [hB,orS,orN_f,Bool.false_eq_true,if_false,List.map_nil]
   exact ret_all rfl (by first | decide | simp [newIds,refsOf,refs2,refs1]) (by simp) rfl (by simp [newIds,refsOf,refs2,refs1]) (by simp [Blk.kindIs,fillK_fd]) rfl
  ·intro hc0
   have hB:(chkB a l s day)=true:=by
    revert hc0
    unfold chkB inD
    by_cases q1:0≤day<;>by_cases q2:day≤9999<;>cases nameB a<;>simp [q1,q2,hk0,hth]<;>(try omega)
   have hcl:=chkL_at (day:=day) hy
   simp only [] at hcl
   refine v_skip ?_;refine n15 _ _ (weak_keep [2,3,6,8] _) ?_;refine zk ⟨?_⟩;refine v_seqR [2,6,8,10] ?_;intro K19 k19;refine zLoad ⟨?_⟩;refine zc (eqOwn_con a l hl) ⟨?_⟩;refine zq10 ⟨?_⟩;refine k19 _ ?_;refine zk ⟨?_⟩;refine v_seqR [2,6,8,10,11] ?_;intro K20 k20;refine zq11 ⟨?_⟩;refine zq23 ⟨?_⟩;refine k20 _ ?_;refine zk ⟨?_⟩;refine v_seqR [6,8,10,11] ?_;intro K21 k21;refine zMove ⟨?_⟩;refine zq24 ⟨?_⟩;refine k21 _ ?_;refine zk ⟨?_⟩;refine v_seqR [6,10] ?_;intro K22 k22;refine zq11 ⟨?_⟩;refine zLoad ⟨?_⟩;refine zIndexAddr ⟨?_⟩;refine zStore ⟨?_⟩;refine k22 _ ?_;refine zk ⟨?_⟩;refine v_seqR [6,7] ?_;intro K23 k23;refine zLoad ⟨?_⟩;refine zq27 ⟨?_⟩;refine k23 _ ?_;refine zk ⟨?_⟩;refine v_ret ?_;refine r0 _ ?_;refine zf ⟨?_⟩
   simp only [zE,zL,zO,zN,aStepM,optable,set_some,Nat.reduceEqDiff,reduceIte,Nat.reduceLT,implies_true,forall_const,reduceCtorEq,V.ofValue,V.ofScalar,V.un,V.gd,aLoad,row_mk,Blk.row,PartOK,Go.Vm.part,V.cells,V.noSl,V.noRef,Nat.reduceAdd,Nat.reduceLeDiff,Nat.reduceMul,Tryd.underlying9,Ty.c9,Ty.a9,Tryd.underlying63,Ty.c63,Ty.a63,Tryd.underlying65,Ty.c65,Ty.a65]
   simp only [hB,orS,if_true,orN_t]
   rw [hcl]
   exact ret_all rfl (by first | decide | simp [newIds,refsOf,refs2,refs1]) (by simp) rfl (by simp [newIds,refsOf,refs2,refs1]) (by simp [Blk.kindIs,fillK_fd]) rfl
set_option maxHeartbeats 1000000 in
theorem implLText_con (a:ByteArray) (l:List (ByteArray×Int×Int)) (ha:a.size≤9223372036854775807) (hl:l.length≤1048576) (hls:∀t∈l,t.1.size≤9223372036854775807):Con Tryd.prog 64 [.agg [.str a,.sl (l.map (fun t:ByteArray×Int×Int=>V.agg [V.str t.1,V.int .i64 t.2.1,V.int .i64 t.2.2]))]] [] (.tup [.str (ldTxR (nameB a && thsB l) a l),.bool (nameB a && thsB l)]) []:=by
 refine v_con [.tmp 2,.tmp 3] [] Tryd.func64 rfl rfl rfl (by simp [Tryd.ntmps64]) ?_
 intro Q0 n0 r0
 simp only [Tryd.ntmps64,envFrom,Nat.reduceAdd]
 have T:=Tys.mk (And.intro Ty.t3 (And.intro Ty.t4 (And.intro Ty.t9 (And.intro Ty.t63 (And.intro Ty.t65 Ty.t93)))))
 have F:=Fc.mk True.intro
 refine v_seqR [1] ?_;intro K1 k1;refine zq43 ⟨?_⟩;refine k1 _ ?_;refine zk ⟨?_⟩;refine v_seq ?_;intro Q2 n2 e2 r2;refine v_seqR [1,9] ?_;intro K3 k3;refine zLoad ⟨?_⟩;refine zc (isLoad_con a l ha hl hls) ⟨?_⟩;refine zUnOp ⟨?_⟩;refine k3 _ ?_;refine zk ⟨?_⟩;refine v_condS _ rfl ?_ ?_
 ·intro hc0
  have hB:(nameB a && thsB l)=false:=by simpa using hc0
  refine v_seqR [2,3] ?_;intro K5 k5;refine zq1 ⟨?_⟩;refine k5 _ ?_;refine zk ⟨?_⟩;refine v_ret ?_;refine r2 _ ?_;refine r0 _ ?_;refine zf ⟨?_⟩
  exact ret_pure rfl (by rw [ldTxR,hB];rfl) (.inl rfl)
 ·intro hc0
  have hB:(nameB a && thsB l)=true:=by simpa using hc0
  have hB2:=hB
  rw [Bool.and_eq_true] at hB2
  have hk:=(ths_iff _).1 hB2.2
  have hk12:=hk.len
  have haz:=nm_size hB2.1
  have hz6:(⟨#[58]⟩:ByteArray).size=1:=rfl
  have hz0:(⟨#[32]⟩:ByteArray).size=1:=rfl
  have hz1:(⟨#[42]⟩:ByteArray).size=1:=rfl
  have hz2:(⟨#[64]⟩:ByteArray).size=1:=rfl
  have hbz:(a++(⟨#[58]⟩:ByteArray)).size≤7:=by rw [ByteArray.size_append,hz6];omega
  refine v_skip ?_;refine n2 _ _ (weak_keep [1] _) ?_;refine zk ⟨?_⟩;refine v_seqR [1,4] ?_;intro K6 k6
  have F:=Fc.mk (And.intro @ByteArray.size_append (And.intro hz6 (And.intro hz0 (And.intro hz1 hz2))))
  refine zq2 ⟨?_⟩;refine zq25 ⟨?_⟩;refine k6 _ ?_;refine zk ⟨?_⟩;refine v_seq ?_;intro Q7 n7 e7 r7;refine v_seqR [4,14,15,16] ?_;intro K8 k8;refine zq2 ⟨?_⟩;refine zq46 ⟨?_⟩;refine k8 _ ?_;refine zk ⟨?_⟩;refine v_block ?_;intro Q9 n9 x9 e9 r9;refine v_loop (fun p=>⟨[(4,.str p.2),(14,.sl (l.map (fun t:ByteArray×Int×Int=>V.agg [V.str t.1,V.int .i64 t.2.1,V.int .i64 t.2.2]))),(15,.int .i64 l.length),(16,.int .i64 (Nat.cast p.1))],[],false,37,0⟩) (fun p=>p.1≤l.length∧p.2.size≤7+17 * p.1∧p.2=ldTx a (l.take p.1)) (fun p=>l.length - p.1) ((0,a++(⟨#[58]⟩:ByteArray)):Nat×ByteArray) ?_ ?_ ?_
  ·refine weak_bothS [4,14,15,16] [] ⟨?_⟩
   rfl
  ·exact ⟨Nat.zero_le _,hbz,rfl⟩
  ·rintro ⟨i,st⟩ hok10 Q10 n10 e10 r10
   obtain ⟨hi1,hsz,hR⟩:=hok10
   simp only [] at hi1 hsz hR⊢
   refine v_seqR [4,14,15,16,17] ?_;intro K11 k11;refine zBinOp ⟨?_⟩;refine k11 _ ?_;refine zk ⟨?_⟩;refine v_seq ?_;intro Q12 n12 e12 r12;refine v_condS _ rfl ?_ ?_
   ·intro hc1
    have hlt:i < l.length:=by omega
    obtain ⟨⟨x0,x1,x2⟩,hx⟩:∃x:ByteArray×Int×Int,l[i]? =some x:=⟨l[i]'(by omega),List.getElem?_eq_getElem (by omega)⟩
    obtain ⟨ho1,ho2,ho3⟩:=hk.ok _ (List.mem_of_getElem? hx)
    simp only [] at ho1 ho2 ho3
    obtain ⟨hs0,hs1,hs2,hs3⟩:=thTx_size (x:=(x0,x1,x2)) ho1 ho2 ho3
    simp only [] at hs0 hs1 hs2 hs3
    have hst:=ldTx_step (a:=a) hx
    refine v_skip ?_;refine n12 _ _ (weak_keep [4,14,15,16] _) ?_;refine zk ⟨?_⟩;refine v_seq ?_;intro Q14 n14 e14 r14;refine v_block ?_;intro Q15 n15 x15 e15 r15;refine v_seqR [4,6,14,15,16] ?_;intro K16 k16
    have F:=Fc.mk (And.intro @ByteArray.size_append (And.intro hz6 (And.intro hz0 (And.intro hz1 (And.intro hz2 (fun f=>getD_map (f:=f) hx))))))
    refine zq23 ⟨?_⟩;refine k16 _ ?_;refine zk ⟨?_⟩;refine v_draw (by kernel_rfl) ?_;intro K17 q17 k17
    show aAny _ _ _ _ 16 (Array.replicate 16 false) _
    refine zdMove q17 true 0 20 ?_;refine zdFieldAddr q17 true 1 21 ?_;refine zdLoad q17 true 2 22 ?_;refine zdBinOpW q17 true 3 23 ?_;refine zdBinOpW q17 true 4 24 ?_;refine zdFieldAddr q17 true 5 25 ?_;refine zdLoad q17 true 6 26 ?_;refine zdFieldAddr q17 true 10 30 ?_;refine zdLoad q17 true 11 31 ?_;refine zoc 7 (itoa_con x1 (by omega)) ⟨?_⟩;refine zdBinOpW q17 true 8 28 ?_;refine zdBinOpW q17 true 9 29 ?_;refine zoc 12 (itoa_con x2 (by omega)) ⟨?_⟩;refine zdBinOpW q17 true 13 33 ?_;refine zdBinOpW q17 true 14 34 ?_;refine zoAssign 15 ⟨?_⟩;refine aAny_done (by kernel_rfl) ?_;refine k17 _ ?_;refine n15 _ ?_;refine n14 _ _ (weak_keep [4,14,15,16] _) ?_;refine zk ⟨?_⟩;refine v_region ?_;intro K18 k18;refine zq6 ⟨?_⟩;refine k18 _ ?_;refine n10 _ (i+1,(st++((⟨#[32]⟩:ByteArray)++x0++(⟨#[42]⟩:ByteArray)++numB x1.toNat++(⟨#[64]⟩:ByteArray)++numB x2.toNat))) ?_ ?_ ?_
    ·refine weak_bothS [4,14,15,16] [] ⟨?_⟩
     rfl
    ·have hxe:(st++((⟨#[32]⟩:ByteArray)++x0++(⟨#[42]⟩:ByteArray)++numB x1.toNat++(⟨#[64]⟩:ByteArray)++numB x2.toNat))=st++thTx (x0,x1,x2):=rfl
     exact ⟨hlt,by show ByteArray.size (st++((⟨#[32]⟩:ByteArray)++x0++(⟨#[42]⟩:ByteArray)++numB x1.toNat++(⟨#[64]⟩:ByteArray)++numB x2.toNat))≤7+17 * (i+1);rw [hxe,ByteArray.size_append];omega,by show (st++((⟨#[32]⟩:ByteArray)++x0++(⟨#[42]⟩:ByteArray)++numB x1.toNat++(⟨#[64]⟩:ByteArray)++numB x2.toNat))=_;rw [hst,←hR,hxe]⟩
    ·show _ < _;show l.length - (i+1) < l.length - i;omega
   ·intro hc1
    refine v_exit ?_;refine e12 _ _ ?_;refine e10 _ _ ?_;refine x9 _ ?_;refine n7 _ _ (weak_keep [4] _) ?_;refine zk ⟨?_⟩;refine v_seqR [2,3] ?_;intro K19 k19;refine zq41 ⟨?_⟩;refine k19 _ ?_;refine zk ⟨?_⟩;refine v_ret ?_;refine r0 _ ?_;refine zf ⟨?_⟩
    have hend2:st=ldTx a l:=by rw [hR,List.take_of_length_le (by omega)]
    exact ret_pure rfl (by rw [ldTxR,hB,hend2];rfl) (.inl rfl)
set_option maxHeartbeats 1000000 in
theorem specLText_con (a:ByteArray) (l:List (ByteArray×Int×Int)) (ha:a.size≤9223372036854775807) (hl:l.length≤1048576) (hls:∀t∈l,t.1.size≤9223372036854775807):Con Tryd.prog 65 [.agg [.str a,.sl (l.map (fun t:ByteArray×Int×Int=>V.agg [V.str t.1,V.int .i64 t.2.1,V.int .i64 t.2.2]))]] [] (.tup [.str (ldTxR (nameB a && thsB l) a l),.bool (nameB a && thsB l)]) []:=by
 refine v_con [.tmp 2,.tmp 3] [] Tryd.func65 rfl rfl rfl (by simp [Tryd.ntmps65]) ?_
 intro Q0 n0 r0
 simp only [Tryd.ntmps65,envFrom,Nat.reduceAdd]
 have T:=Tys.mk (And.intro Ty.t3 (And.intro Ty.t4 (And.intro Ty.t9 (And.intro Ty.t63 (And.intro Ty.t65 Ty.t93)))))
 have F:=Fc.mk True.intro
 refine v_seqR [1] ?_;intro K1 k1;refine zq43 ⟨?_⟩;refine k1 _ ?_;refine zk ⟨?_⟩;refine v_seq ?_;intro Q2 n2 e2 r2;refine v_seqR [1,9] ?_;intro K3 k3;refine zLoad ⟨?_⟩;refine zc (eqLoad_con a l ha hl hls) ⟨?_⟩;refine zUnOp ⟨?_⟩;refine k3 _ ?_;refine zk ⟨?_⟩;refine v_condS _ rfl ?_ ?_
 ·intro hc0
  have hB:(nameB a && thsB l)=false:=by simpa using hc0
  refine v_seqR [2,3] ?_;intro K5 k5;refine zq1 ⟨?_⟩;refine k5 _ ?_;refine zk ⟨?_⟩;refine v_ret ?_;refine r2 _ ?_;refine r0 _ ?_;refine zf ⟨?_⟩
  exact ret_pure rfl (by rw [ldTxR,hB];rfl) (.inl rfl)
 ·intro hc0
  have hB:(nameB a && thsB l)=true:=by simpa using hc0
  have hB2:=hB
  rw [Bool.and_eq_true] at hB2
  have hk:=(ths_iff _).1 hB2.2
  have hk12:=hk.len
  have haz:=nm_size hB2.1
  have hz6:(⟨#[58]⟩:ByteArray).size=1:=rfl
  have hz0:(⟨#[32]⟩:ByteArray).size=1:=rfl
  have hz1:(⟨#[42]⟩:ByteArray).size=1:=rfl
  have hz2:(⟨#[64]⟩:ByteArray).size=1:=rfl
  have hbz:(a++(⟨#[58]⟩:ByteArray)).size≤7:=by rw [ByteArray.size_append,hz6];omega
  refine v_skip ?_;refine n2 _ _ (weak_keep [1] _) ?_;refine zk ⟨?_⟩;refine v_seqR [1,4] ?_;intro K6 k6
  have F:=Fc.mk (And.intro @ByteArray.size_append (And.intro hz6 (And.intro hz0 (And.intro hz1 hz2))))
  refine zq2 ⟨?_⟩;refine zq25 ⟨?_⟩;refine k6 _ ?_;refine zk ⟨?_⟩;refine v_seq ?_;intro Q7 n7 e7 r7;refine v_seqR [4,14,15,16] ?_;intro K8 k8;refine zq2 ⟨?_⟩;refine zq46 ⟨?_⟩;refine k8 _ ?_;refine zk ⟨?_⟩;refine v_block ?_;intro Q9 n9 x9 e9 r9;refine v_loop (fun p=>⟨[(4,.str p.2),(14,.sl (l.map (fun t:ByteArray×Int×Int=>V.agg [V.str t.1,V.int .i64 t.2.1,V.int .i64 t.2.2]))),(15,.int .i64 l.length),(16,.int .i64 (Nat.cast p.1))],[],false,37,0⟩) (fun p=>p.1≤l.length∧p.2.size≤7+17 * p.1∧p.2=ldTx a (l.take p.1)) (fun p=>l.length - p.1) ((0,a++(⟨#[58]⟩:ByteArray)):Nat×ByteArray) ?_ ?_ ?_
  ·refine weak_bothS [4,14,15,16] [] ⟨?_⟩
   rfl
  ·exact ⟨Nat.zero_le _,hbz,rfl⟩
  ·rintro ⟨i,st⟩ hok10 Q10 n10 e10 r10
   obtain ⟨hi1,hsz,hR⟩:=hok10
   simp only [] at hi1 hsz hR⊢
   refine v_seqR [4,14,15,16,17] ?_;intro K11 k11;refine zBinOp ⟨?_⟩;refine k11 _ ?_;refine zk ⟨?_⟩;refine v_seq ?_;intro Q12 n12 e12 r12;refine v_condS _ rfl ?_ ?_
   ·intro hc1
    have hlt:i < l.length:=by omega
    obtain ⟨⟨x0,x1,x2⟩,hx⟩:∃x:ByteArray×Int×Int,l[i]? =some x:=⟨l[i]'(by omega),List.getElem?_eq_getElem (by omega)⟩
    obtain ⟨ho1,ho2,ho3⟩:=hk.ok _ (List.mem_of_getElem? hx)
    simp only [] at ho1 ho2 ho3
    obtain ⟨hs0,hs1,hs2,hs3⟩:=thTx_size (x:=(x0,x1,x2)) ho1 ho2 ho3
    simp only [] at hs0 hs1 hs2 hs3
    have hst:=ldTx_step (a:=a) hx
    refine v_skip ?_;refine n12 _ _ (weak_keep [4,14,15,16] _) ?_;refine zk ⟨?_⟩;refine v_seq ?_;intro Q14 n14 e14 r14;refine v_block ?_;intro Q15 n15 x15 e15 r15;refine v_seqR [4,6,14,15,16] ?_;intro K16 k16
    have F:=Fc.mk (And.intro @ByteArray.size_append (And.intro hz6 (And.intro hz0 (And.intro hz1 (And.intro hz2 (fun f=>getD_map (f:=f) hx))))))
    refine zq23 ⟨?_⟩;refine k16 _ ?_;refine zk ⟨?_⟩;refine v_draw (by kernel_rfl) ?_;intro K17 q17 k17
    show aAny _ _ _ _ 16 (Array.replicate 16 false) _
    refine zdMove q17 true 0 20 ?_;refine zdFieldAddr q17 true 1 21 ?_;refine zdLoad q17 true 2 22 ?_;refine zdBinOpW q17 true 3 23 ?_;refine zdBinOpW q17 true 4 24 ?_;refine zdFieldAddr q17 true 5 25 ?_;refine zdLoad q17 true 6 26 ?_;refine zdFieldAddr q17 true 10 30 ?_;refine zdLoad q17 true 11 31 ?_;refine zoc 7 (l1Num_con x1 (by omega)) ⟨?_⟩;refine zdBinOpW q17 true 8 28 ?_;refine zdBinOpW q17 true 9 29 ?_;refine zoc 12 (l1Num_con x2 (by omega)) ⟨?_⟩;refine zdBinOpW q17 true 13 33 ?_;refine zdBinOpW q17 true 14 34 ?_;refine zoAssign 15 ⟨?_⟩;refine aAny_done (by kernel_rfl) ?_;refine k17 _ ?_;refine n15 _ ?_;refine n14 _ _ (weak_keep [4,14,15,16] _) ?_;refine zk ⟨?_⟩;refine v_region ?_;intro K18 k18;refine zq6 ⟨?_⟩;refine k18 _ ?_;refine n10 _ (i+1,(st++((⟨#[32]⟩:ByteArray)++x0++(⟨#[42]⟩:ByteArray)++numB x1.toNat++(⟨#[64]⟩:ByteArray)++numB x2.toNat))) ?_ ?_ ?_
    ·refine weak_bothS [4,14,15,16] [] ⟨?_⟩
     rfl
    ·have hxe:(st++((⟨#[32]⟩:ByteArray)++x0++(⟨#[42]⟩:ByteArray)++numB x1.toNat++(⟨#[64]⟩:ByteArray)++numB x2.toNat))=st++thTx (x0,x1,x2):=rfl
     exact ⟨hlt,by show ByteArray.size (st++((⟨#[32]⟩:ByteArray)++x0++(⟨#[42]⟩:ByteArray)++numB x1.toNat++(⟨#[64]⟩:ByteArray)++numB x2.toNat))≤7+17 * (i+1);rw [hxe,ByteArray.size_append];omega,by show (st++((⟨#[32]⟩:ByteArray)++x0++(⟨#[42]⟩:ByteArray)++numB x1.toNat++(⟨#[64]⟩:ByteArray)++numB x2.toNat))=_;rw [hst,←hR,hxe]⟩
    ·show _ < _;show l.length - (i+1) < l.length - i;omega
   ·intro hc1
    refine v_exit ?_;refine e12 _ _ ?_;refine e10 _ _ ?_;refine x9 _ ?_;refine n7 _ _ (weak_keep [4] _) ?_;refine zk ⟨?_⟩;refine v_seqR [2,3] ?_;intro K19 k19;refine zq41 ⟨?_⟩;refine k19 _ ?_;refine zk ⟨?_⟩;refine v_ret ?_;refine r0 _ ?_;refine zf ⟨?_⟩
    have hend2:st=ldTx a l:=by rw [hR,List.take_of_length_le (by omega)]
    exact ret_pure rfl (by rw [ldTxR,hB,hend2];rfl) (.inl rfl)
end Go.Proofs.YtbameklegpgkfaaDoor
