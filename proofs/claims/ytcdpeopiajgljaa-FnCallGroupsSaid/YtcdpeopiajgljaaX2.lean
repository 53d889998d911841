/- What functions compute. No condition. -/
import Derived.Test.YtcdpeopiajgljaaUz
import Derived.Test.YtcdpeopiajgljaaUty
import Derived.Test.YtcdpeopiajgljaaUmG
import Derived.Test.YtcdpeopiajgljaaX1
set_option linter.unusedSimpArgs false
set_option linter.unusedVariables false
set_option linter.defProp false
namespace Go.Proofs.Ytcdpeopiajgljaa
open Go Go.Vm
set_option maxHeartbeats 8000000
def putPos (l:List Int) (n:Int) (k:Nat):Nat:=k+((l.drop k).takeWhile fun y=>decide (y < n)).length
def putL (l:List Int) (n:Int):List Int:=if l[putPos l n 0]? =some n then l else l.take (putPos l n 0)++n::l.drop (putPos l n 0)
theorem putPos_step {l:List Int} {n y:Int} {k:Nat} (hy:l[k]? =some y) (h:y < n):putPos l n k=putPos l n (k+1):=by
  have hk:k < l.length:=(List.getElem?_eq_some_iff.1 hy).1
  have hd:l.drop k=y::l.drop (k+1):=by
    rw [List.drop_eq_getElem_cons hk]
    congr 1
    exact (List.getElem?_eq_some_iff.1 hy).2
  rw [putPos,hd,List.takeWhile_cons,if_pos (by simpa using h),putPos,List.length_cons];omega
theorem putPos_stop {l:List Int} {n y:Int} {k:Nat} (hy:l[k]? =some y) (h:¬y < n):putPos l n k=k:=by
  have hk:k < l.length:=(List.getElem?_eq_some_iff.1 hy).1
  have hd:l.drop k=y::l.drop (k+1):=by
    rw [List.drop_eq_getElem_cons hk]
    congr 1
    exact (List.getElem?_eq_some_iff.1 hy).2
  rw [putPos,hd,List.takeWhile_cons,if_neg (by simpa using h)];rfl
theorem putPos_end {l:List Int} {n:Int} {k:Nat} (h:l.length≤k):putPos l n k=k:=by
  rw [putPos,List.drop_of_length_le h];rfl
theorem put_facts {l:List Int} {n:Int} (hl:l.Pairwise (· < ·)):putPos l n 0≤l.length∧(∀y∈l.take (putPos l n 0),y < n)∧(∀y∈l.drop (putPos l n 0),n≤y):=by
  have e:putPos l n 0=(l.takeWhile fun y=>decide (y < n)).length:=by rw [putPos,List.drop_zero,Nat.zero_add]
  have hsp:l.takeWhile (fun y=>decide (y < n))++l.dropWhile (fun y=>decide (y < n))=l:=List.takeWhile_append_dropWhile
  have ht:l.take (putPos l n 0)=l.takeWhile fun y=>decide (y < n):=by
    have q:∀a b:List Int,a++b=l→l.take a.length=a:=fun a b h=>by rw [←h,List.take_left' rfl]
    rw [e];exact q _ _ hsp
  have hdr:l.drop (putPos l n 0)=l.dropWhile fun y=>decide (y < n):=by
    have q:∀a b:List Int,a++b=l→l.drop a.length=b:=fun a b h=>by rw [←h,List.drop_left' rfl]
    rw [e];exact q _ _ hsp
  refine ⟨?_,fun y hy=> ?_,fun y hy=> ?_⟩
  · rw [e];exact (List.takeWhile_prefix _).length_le
  · rw [ht] at hy
    have:=List.all_takeWhile (p:=fun y=>decide (y < n)) (l:=l)
    rw [List.all_eq_true] at this
    simpa using this y hy
  · rw [hdr] at hy
    cases hq:l.dropWhile (fun y=>decide (y < n)) with
    | nil=>rw [hq] at hy;cases hy
    | cons z r=>
      have hz:¬z < n:=by
        have:=List.head?_dropWhile_not (fun y=>decide (y < n)) l
        rw [hq] at this
        simpa using this
      rw [hq] at hy
      rcases List.mem_cons.1 hy with rfl | hy
      · omega
      · have hp:(l.dropWhile fun y=>decide (y < n)).Pairwise (· < ·):=hl.sublist (List.dropWhile_sublist _)
        rw [hq] at hp
        have:=(List.pairwise_cons.1 hp).1 y hy
        omega
theorem put_new {l:List Int} {n:Int} (hl:l.Pairwise (· < ·)) (hn:n ∉ l):(putL l n).Pairwise (· < ·)∧(∀x,x∈putL l n↔x=n∨x∈l)∧(putL l n).length=l.length+1:=by
  obtain ⟨h0,h1,h2⟩:=put_facts (n:=n) hl
  have hne:¬l[putPos l n 0]? =some n:=fun h=>hn (List.mem_of_getElem? h)
  have hsplit:∀x,x∈l↔x∈l.take (putPos l n 0)∨x∈l.drop (putPos l n 0):=fun x=>by rw [←List.mem_append,List.take_append_drop]
  have h3:∀y∈l.drop (putPos l n 0),n < y:=fun y hy=>by
    have:=h2 y hy
    have:y≠n:=fun e=>hn (e ▸ List.mem_of_mem_drop hy)
    omega
  rw [putL,if_neg hne]
  refine ⟨?_,fun x=> ?_,?_⟩
  · rw [List.pairwise_append,List.pairwise_cons]
    refine ⟨hl.sublist (List.take_sublist ..),⟨h3,hl.sublist (List.drop_sublist ..)⟩,fun a ha b hb=> ?_⟩
    rcases List.mem_cons.1 hb with rfl | hb
    · exact h1 a ha
    · have:=h1 a ha;have:=h3 b hb;omega
  · rw [List.mem_append,List.mem_cons,hsplit x]
    constructor
    · rintro (h | h | h)
      · exact .inr (.inl h)
      · exact .inl h
      · exact .inr (.inr h)
    · rintro (h | h | h)
      · exact .inr (.inl h)
      · exact .inl h
      · exact .inr (.inr h)
  · rw [List.length_append,List.length_cons,List.length_take,List.length_drop];omega
structure RF (a:Int) (i:Nat) (l:List (List Int)):Prop where
  len:l.length=i
  n9:∀s∈l,s.length≤9
  mem:∀s∈l,∀y∈s,0≤y∧y < a
theorem RF.zero (a:Int):RF a 0 []:=⟨rfl,by simp,by simp⟩
set_option maxRecDepth 8000 in
theorem l1Put_con (l:List Int) (n:Int) (hl:l.length≤1048576) (hn:n ∉ l):Con Try.prog 70 [.sl (l.map (V.int .i64)),.int .i64 n] [] (.ref 0) [.arr ((putL l n).map (V.int .i64)) .flat]:=by
 refine v_con [.tmp 4] [] Try.func70 rfl rfl rfl (by simp [Try.ntmps70]) ?_
 intro Q0 n0 r0
 simp only [Try.ntmps70,envFrom,Nat.reduceAdd]
 have T:=Tys.mk (ai Ty.t3 Ty.t26)
 have F:=Fc.mk True.intro
 refine yR [0,1] ⟨?_⟩;refine yR [0,1,5] ⟨?_⟩;refine v_seq ?_;intros;refine v_block ?_;intros;refine v_loop (fun k=>⟨[(0,.sl (l.map (V.int .i64))),(1,.int .i64 n),(5,.int .i64 (Nat.cast k))],[],false,48,0⟩) (fun k=>k≤l.length∧putPos l n k=putPos l n 0) (fun k=>l.length - k) 0 ?_ ?_ ?_
 ·refine weak_bothS [0,1,5] [] ⟨?_⟩
  rfl
 ·exact ⟨Nat.zero_le _,rfl⟩
 ·rintro k hok5 Q5 n5 e5 r5
  obtain ⟨hk1,hR⟩:=hok5
  rcases Nat.lt_or_ge k l.length with hkl | hkl
  ·skip
   obtain ⟨y,hy⟩:∃y,l[k]? =some y:=⟨_,List.getElem?_eq_getElem hkl⟩
   have hk0:(k:Int) < (l.length:Int):=by omega
   have hns:((l.take k).map (V.int .i64)).all V.noSl=true:=by rw [List.all_map,List.all_eq_true];intro a _;rfl
   have hns2:((l.drop k).map (V.int .i64)).all V.noSl=true:=by rw [List.all_map,List.all_eq_true];intro a _;rfl
   have htk:(l.take k).length=k:=by rw [List.length_take];omega
   have hdk:(l.drop k).length=l.length - k:=List.length_drop
   have hsn:(l.take k).map (V.int .i64)++[V.int .i64 n]=(l.take k++[n]).map (V.int .i64):=by rw [List.map_append];rfl
   have hk1:(l.take k++[n]).length=k+1:=by rw [List.length_append,htk];rfl
   refine v_seq ?_;intros
   have F:=Fc.mk (ai hk0 (ai @decide_true (ai @Bool.and_true (ai (gdm hy) (ai hns (ai hns2 (ai htk (ai hdk (ai hsn hk1)))))))))
   refine yR [0,1,5,18] ⟨?_⟩;refine v_condS _ rfl ?_ ?_
   ·intro hc0
    have hyn:y < n:=by simpa using hc0
    refine zn [0,1,5] ⟨?_⟩;refine v_block ?_;intros;refine yV ⟨?_⟩;refine n5 _ (k+1) ?_ ?_ ?_
    ·refine weak_bothS [0,1,5] [] ⟨?_⟩
     rfl
    ·exact ⟨by omega,by rw [←hR,←putPos_step hy hyn]⟩
    ·show _ < _;omega
   ·intro hc0
    have hpk:putPos l n k=k:=by
     first
     |exact putPos_end hkl
     |exact putPos_stop hy (by simpa using hc0)
    refine zn [0,1,5] ⟨?_⟩;refine v_seq ?_;intros;refine yR [0,1,5,32] ⟨?_⟩;refine v_cond _ rfl ?_ ?_
    ·intro hc1
     exfalso;first
     |(simp at hc1;done)
     |(simp at hc1;exact hn (hc1 ▸ List.mem_of_getElem? hy))
    ·intro hc1
     try simp only [zC,reduceCtorEq] at hc1
     refine zn [0,1,5] ⟨?_⟩;refine yR [0,1,5,6] ⟨?_⟩;refine yR [0,5,6] ⟨?_⟩;refine yR [4] ⟨?_⟩;refine zr ⟨?_⟩
     have hne:¬l[putPos l n 0]? =some n:=fun h=>hn (List.mem_of_getElem? h)
     have hpl:putL l n=l.take k++n::l.drop k:=by rw [putL,if_neg hne,←hR,hpk]
     rw [hpl]
     exact ret_refK rfl rfl (by simp)
  ·skip
   have hk0:¬((k:Int) < (l.length:Int)):=by omega
   have hns:((l.take k).map (V.int .i64)).all V.noSl=true:=by rw [List.all_map,List.all_eq_true];intro a _;rfl
   have hns2:((l.drop k).map (V.int .i64)).all V.noSl=true:=by rw [List.all_map,List.all_eq_true];intro a _;rfl
   have htk:(l.take k).length=k:=by rw [List.length_take];omega
   have hdk:(l.drop k).length=l.length - k:=List.length_drop
   have hsn:(l.take k).map (V.int .i64)++[V.int .i64 n]=(l.take k++[n]).map (V.int .i64):=by rw [List.map_append];rfl
   have hk1:(l.take k++[n]).length=k+1:=by rw [List.length_append,htk];rfl
   refine v_seq ?_;intros
   have F:=Fc.mk (ai hk0 (ai @decide_false (ai @Bool.and_false (ai hns (ai hns2 (ai htk (ai hdk (ai hsn hk1))))))))
   refine yR [0,1,5,18] ⟨?_⟩;refine v_cond _ rfl ?_ ?_
   ·intro hc0
    exfalso;simp at hc0
   ·intro hc0
    try simp only [zC,reduceCtorEq] at hc0
    have hpk:putPos l n k=k:=by
     first
     |exact putPos_end hkl
     |exact putPos_stop hy (by simpa using hc0)
    refine zn [0,1,5] ⟨?_⟩;refine v_seq ?_;intros;refine yR [0,1,5,32] ⟨?_⟩;refine v_cond _ rfl ?_ ?_
    ·intro hc1
     exfalso;first
     |(simp at hc1;done)
     |(simp at hc1;exact hn (hc1 ▸ List.mem_of_getElem? hy))
    ·intro hc1
     try simp only [zC,reduceCtorEq] at hc1
     refine zn [0,1,5] ⟨?_⟩;refine yR [0,1,5,6] ⟨?_⟩;refine yR [0,5,6] ⟨?_⟩;refine yR [4] ⟨?_⟩;refine zr ⟨?_⟩
     have hne:¬l[putPos l n 0]? =some n:=fun h=>hn (List.mem_of_getElem? h)
     have hpl:putL l n=l.take k++n::l.drop k:=by rw [putL,if_neg hne,←hR,hpk]
     rw [hpl]
     exact ret_refK rfl rfl (by simp)
theorem and255 (a:Int):0≤IntKind.i64.wrap (IntKind.u64.wrap ((BitVec.ofInt IntKind.u64.bits a &&& BitVec.ofInt IntKind.u64.bits 255).toNat:Int))∧IntKind.i64.wrap (IntKind.u64.wrap ((BitVec.ofInt IntKind.u64.bits a &&& BitVec.ofInt IntKind.u64.bits 255).toNat:Int))≤255:=by
  have h:(BitVec.ofInt IntKind.u64.bits a &&& BitVec.ofInt IntKind.u64.bits 255).toNat≤255:=by
    rw [BitVec.toNat_and]
    exact Nat.le_trans Nat.and_le_right (by decide)
  generalize (BitVec.ofInt IntKind.u64.bits a &&& BitVec.ofInt IntKind.u64.bits 255).toNat=n at h
  have e:IntKind.u64.wrap (n:Int)=n:=by
    simp only [IntKind.wrap,IntKind.bits,IntKind.signed]
    simp
    omega
  rw [e,wrap64 (by omega) (by omega)]
  omega
theorem tmod_in {x m:Int} (hx:0≤x) (hm:1 < m):0≤x.tmod m∧x.tmod m < m:=⟨Int.tmod_nonneg m hx,Int.tmod_lt_of_pos x (by omega)⟩
theorem next_con (code:List Int) (a s:Int) (hcode:∀x∈code,0≤x∧x≤255) (hcl:code.length≤9223372036854775807) (ha:0≤a∧a < 20000000000):ConX Try.prog 113 [.ptr 0 0 0] [.box (.agg [.sl (code.map (V.int .u8)),.int .i64 a,.int .u64 s]) .shal] (fun r O'=>∃(v:Int) (a' s':Int),(0≤v∧v≤255)∧(a≤a'∧a'≤a+1)∧r=.int .i64 v∧O'=[.box (.agg [.sl (code.map (V.int .u8)),.int .i64 a',.int .u64 s']) .shal]):=by
 refine v_conX [.tmp 2] [] Try.func113 rfl rfl rfl (by simp [Try.ntmps113]) ?_
 intro Q0 n0 r0
 simp only [Try.ntmps113,envFrom,Nat.reduceAdd]
 have T:=Tys.mk (ai Ty.t3 (ai Ty.t5 (ai Ty.t48 (ai Ty.t96 (ai Ty.t98 Ty.t133)))))
 have F:=Fc.mk True.intro
 refine yR [0] ⟨?_⟩;refine yR [0,3] ⟨?_⟩;refine v_seq ?_;intro Q3 n3 e3 r3;refine v_seq ?_;intro Q4 n4 e4 r4;refine v_draw (by kernel_rfl) ?_;intro K5 q5 k5
 show aAny _ _ _ _ 10 (Array.replicate 10 false) _
 refine zdMove q5 true 0 4 ?_;refine zdNilCheck q5 true 1 5 ?_;refine zdFieldAddr q5 true 2 6 ?_;refine zdLoad q5 true 3 7 ?_;refine zdMove q5 true 4 8 ?_;refine zdNilCheck q5 true 5 9 ?_;refine zdFieldAddr q5 true 6 10 ?_;refine zdLoad q5 true 7 11 ?_;refine zdLen q5 true 8 12 ?_;refine zdBinOp q5 true 9 13 ?_;refine aAny_done (by kernel_rfl) ?_;refine k5 _ ?_;refine n4 _ _ (weak_keep [0,3,13] _) ?_;refine zk ⟨?_⟩;refine v_condS _ rfl ?_ ?_
 ·intro hc0
  have hlt:a.toNat < code.length:=by omega
  obtain ⟨x,hx⟩:∃x,code[a.toNat]? =some x:=⟨code[a.toNat],List.getElem?_eq_getElem hlt⟩
  have hxb:=hcode x (List.mem_of_getElem? hx)
  have hxw:IntKind.i64.wrap x=x:=wrap64 (by omega) (by omega)
  refine v_draw (by kernel_rfl) ?_;intro K7 q7 k7
  show aAny _ _ _ _ 12 (Array.replicate 12 false) _
  have F:=Fc.mk (ai (gdm hx) hxw)
  refine zdMove q7 true 0 14 ?_;refine zdNilCheck q7 true 1 15 ?_;refine zdFieldAddr q7 true 2 16 ?_;refine zdLoad q7 true 3 17 ?_;refine zdMove q7 true 4 18 ?_;refine zdNilCheck q7 true 5 19 ?_;refine zdFieldAddr q7 true 6 20 ?_;refine zdLoad q7 true 7 21 ?_;refine zdIndexAddr q7 true 8 22 ?_;refine zdLoad q7 true 9 23 ?_;refine zdConvert q7 true 10 24 ?_;refine zoAssign 11 ⟨?_⟩;refine aAny_done (by kernel_rfl) ?_;refine k7 _ ?_;refine n3 _ _ (weak_keep [0,3] _) ?_;refine zk ⟨?_⟩;refine yR [0,3] ⟨?_⟩;refine yR [0,3] ⟨?_⟩;refine v_seq ?_;intros;refine v_seq ?_;intro Q11 n11 e11 r11;refine v_draw (by kernel_rfl) ?_;intro K12 q12 k12
  show aAny _ _ _ _ 10 (Array.replicate 10 false) _
  refine zdMove q12 true 0 44 ?_;refine zdNilCheck q12 true 1 45 ?_;refine zdFieldAddr q12 true 2 46 ?_;refine zdLoad q12 true 3 47 ?_;refine zdMove q12 true 4 48 ?_;refine zdNilCheck q12 true 5 49 ?_;refine zdFieldAddr q12 true 6 50 ?_;refine zdLoad q12 true 7 51 ?_;refine zdLen q12 true 8 52 ?_;refine zdBinOp q12 true 9 53 ?_;refine aAny_done (by kernel_rfl) ?_;refine k12 _ ?_;refine n11 _ _ (weak_keep [0,3,53] _) ?_;refine zk ⟨?_⟩;refine v_condS _ rfl ?_ ?_
  ·intro hc1
   refine yR [2] ⟨?_⟩;refine zr ⟨?_⟩;refine ret_viewX ?_
   exact ⟨_,_,_,by omega,by omega,rfl,rfl⟩
  ·intro hc1
   refine zn [0] ⟨?_⟩;refine yR [2] ⟨?_⟩;refine zr ⟨?_⟩;refine ret_viewX ?_
   exact ⟨_,_,_,and255 _,by omega,rfl,rfl⟩
 ·intro hc0
  refine zn [0,3] ⟨?_⟩;refine yR [0,3] ⟨?_⟩;refine yR [0,3] ⟨?_⟩;refine v_seq ?_;intros;refine v_seq ?_;intro Q19 n19 e19 r19;refine v_draw (by kernel_rfl) ?_;intro K20 q20 k20
  show aAny _ _ _ _ 10 (Array.replicate 10 false) _
  refine zdMove q20 true 0 44 ?_;refine zdNilCheck q20 true 1 45 ?_;refine zdFieldAddr q20 true 2 46 ?_;refine zdLoad q20 true 3 47 ?_;refine zdMove q20 true 4 48 ?_;refine zdNilCheck q20 true 5 49 ?_;refine zdFieldAddr q20 true 6 50 ?_;refine zdLoad q20 true 7 51 ?_;refine zdLen q20 true 8 52 ?_;refine zdBinOp q20 true 9 53 ?_;refine aAny_done (by kernel_rfl) ?_;refine k20 _ ?_;refine n19 _ _ (weak_keep [0,3,53] _) ?_;refine zk ⟨?_⟩;refine v_condS _ rfl ?_ ?_
  ·intro hc2
   refine yR [2] ⟨?_⟩;refine zr ⟨?_⟩;refine ret_viewX ?_
   exact ⟨_,_,_,by omega,by omega,rfl,rfl⟩
  ·intro hc2
   refine zn [0] ⟨?_⟩;refine yR [2] ⟨?_⟩;refine zr ⟨?_⟩;refine ret_viewX ?_
   exact ⟨_,_,_,and255 _,by omega,rfl,rfl⟩
theorem pick_con (code:List Int) (a s:Int) (m:Int) (hcode:∀x∈code,0≤x∧x≤255) (hcl:code.length≤9223372036854775807) (ha:0≤a∧a < 19000000000):ConX Try.prog 80 [.ptr 0 0 0,.int .i64 m] [.box (.agg [.sl (code.map (V.int .u8)),.int .i64 a,.int .u64 s]) .shal] (fun r O'=>∃(v:Int) (a' s':Int),(0≤v∧(v < m∨(m≤1∧v=0)))∧(a≤a'∧a'≤a+2)∧r=.int .i64 v∧O'=[.box (.agg [.sl (code.map (V.int .u8)),.int .i64 a',.int .u64 s']) .shal]):=by
 refine v_conX [.tmp 4] [(113,[0])] Try.func80 rfl rfl rfl (by simp [Try.ntmps80]) ?_
 intro Q0 n0 r0
 simp only [Try.ntmps80,envFrom,Nat.reduceAdd]
 have T:=Tys.mk (ai Ty.t3 (ai Ty.t5 (ai Ty.t48 (ai Ty.t95 (ai Ty.t96 Ty.t98)))))
 have F:=Fc.mk True.intro
 refine yR [0,1] ⟨?_⟩;refine v_seq ?_;intros;refine yR [0,1,7] ⟨?_⟩;refine v_condS _ rfl ?_ ?_
 ·intro hc0
  refine yR [4] ⟨?_⟩;refine zr ⟨?_⟩;refine ret_viewX ?_
  exact ⟨0,_,_,by omega,by omega,rfl,rfl⟩
 ·intro hc0
  refine zn [0,1] ⟨?_⟩;refine v_seqR [0,1,5] ?_;intro K6 k6;refine zMove ⟨?_⟩;refine v_op ?_;intro K k
  simp only [zE,zM,aStepM,optable,set_some,Nat.reduceEqDiff,reduceIte,Nat.reduceLT,implies_true,forall_const,reduceCtorEq,V.ofValue,V.ofScalar,V.un,V.gd,aExec,lentIds,lendOf,‹Tys _›.h,‹Fc _›.h]
  repeat (refine andC ?_)
  refine aCall_lentXA (next_con code a s hcode hcl (by omega)) ?_
  rintro _ _ ⟨v9,a9,s9,h9,k9,rfl,rfl⟩
  refine ⟨_,_,rfl,by first | exact .inr (List.all_eq_true.1 rfl) | exact .inl ⟨rfl,by simp [Blk.kindIs,fillK_fd,thK_fd]⟩,?_⟩;refine k _ ?_;clear k K
  simp only [zY,zW,set_some,Nat.reduceEqDiff,reduceIte,rho_one,rho_s,rho2_s,rho2_0,rho2_1,V.ren,V.renL,List.set_cons_zero,List.set_cons_succ,rho,Nat.reduceAdd,Nat.add_zero]
  refine zAssign ⟨?_⟩;refine k6 _ ?_;refine zk ⟨?_⟩;refine v_seq ?_;intro Q7 n7 e7 r7;refine yR [0,1,5,11] ⟨?_⟩;refine v_condS _ rfl ?_ ?_
  ·intro hc1
   refine v_region ?_;intro K10 k10;refine zMove ⟨?_⟩;refine zBinOpW ⟨?_⟩;refine zMove ⟨?_⟩;refine v_op ?_;intro K k
   simp only [zE,zM,aStepM,optable,set_some,Nat.reduceEqDiff,reduceIte,Nat.reduceLT,implies_true,forall_const,reduceCtorEq,V.ofValue,V.ofScalar,V.un,V.gd,aExec,lentIds,lendOf,‹Tys _›.h,‹Fc _›.h]
   repeat (refine andC ?_)
   refine aCall_lentXA (next_con code a9 s9 hcode hcl (by omega)) ?_
   rintro _ _ ⟨v15,a15,s15,h15,k15,rfl,rfl⟩
   refine ⟨_,_,rfl,by first | exact .inr (List.all_eq_true.1 rfl) | exact .inl ⟨rfl,by simp [Blk.kindIs,fillK_fd,thK_fd]⟩,?_⟩;refine k _ ?_;clear k K
   simp only [zY,zW,set_some,Nat.reduceEqDiff,reduceIte,rho_one,rho_s,rho2_s,rho2_0,rho2_1,V.ren,V.renL,List.set_cons_zero,List.set_cons_succ,rho,Nat.reduceAdd,Nat.add_zero]
   refine zBinOpW ⟨?_⟩;refine zAssign ⟨?_⟩;refine k10 _ ?_;refine n7 _ _ (weak_keep [1,5] _) ?_;refine zk ⟨?_⟩;refine yR [4] ⟨?_⟩;refine zr ⟨?_⟩
   have hm1:1 < m:=by omega
   have ht:=tmod_in (x:=v9 * 256+v15) (m:=m) (by omega) hm1
   refine ret_viewX ?_
   exact ⟨_,_,_,by omega,by omega,rfl,rfl⟩
  ·intro hc1
   refine zn [1,5] ⟨?_⟩;refine yR [4] ⟨?_⟩;refine zr ⟨?_⟩
   have hm1:1 < m:=by omega
   have ht:=tmod_in (x:=v9) (m:=m) (by omega) hm1
   refine ret_viewX ?_
   exact ⟨_,_,_,by omega,by omega,rfl,rfl⟩
theorem one_con (code:List Int) (a s:Int) (m:Int) (hcode:∀x∈code,0≤x∧x≤255) (hcl:code.length≤9223372036854775807) (ha:0≤a∧a < 18000000000):ConX Try.prog 101 [.ptr 0 0 0,.int .i64 m] [.box (.agg [.sl (code.map (V.int .u8)),.int .i64 a,.int .u64 s]) .shal] (fun r O'=>∃(v:Bool) (a' s':Int),(True)∧(a≤a'∧a'≤a+2)∧r=.bool v∧O'=[.box (.agg [.sl (code.map (V.int .u8)),.int .i64 a',.int .u64 s']) .shal]):=by
 refine v_conX [.tmp 4] [(80,[0])] Try.func101 rfl rfl rfl (by simp [Try.ntmps101]) ?_
 intro Q0 n0 r0
 simp only [Try.ntmps101,envFrom,Nat.reduceAdd]
 have T:=Tys.mk (ai Ty.t3 (ai Ty.t5 (ai Ty.t48 (ai Ty.t95 (ai Ty.t96 Ty.t98)))))
 have F:=Fc.mk True.intro
 refine yR [0,1] ⟨?_⟩;refine v_seqR [4] ?_;intro K2 k2;refine zq3 ⟨?_⟩;refine v_op ?_;intro K k
 simp only [zE,zM,aStepM,optable,set_some,Nat.reduceEqDiff,reduceIte,Nat.reduceLT,implies_true,forall_const,reduceCtorEq,V.ofValue,V.ofScalar,V.un,V.gd,aExec,lentIds,lendOf,‹Tys _›.h,‹Fc _›.h]
 repeat (refine andC ?_)
 refine aCall_lentXA (pick_con code a s (m) hcode hcl (by omega)) ?_
 rintro _ _ ⟨v7,a7,s7,h7,k7,rfl,rfl⟩
 refine ⟨_,_,rfl,by first | exact .inr (List.all_eq_true.1 rfl) | exact .inl ⟨rfl,by simp [Blk.kindIs,fillK_fd,thK_fd]⟩,?_⟩;refine k _ ?_;clear k K
 simp only [zY,zW,set_some,Nat.reduceEqDiff,reduceIte,rho_one,rho_s,rho2_s,rho2_0,rho2_1,V.ren,V.renL,List.set_cons_zero,List.set_cons_succ,rho,Nat.reduceAdd,Nat.add_zero]
 refine zBinOp ⟨?_⟩;refine zAssign ⟨?_⟩;refine k2 _ ?_;refine zq2 ⟨?_⟩;refine ret_viewX ?_
 exact ⟨_,_,_,trivial,by omega,rfl,rfl⟩
theorem among_con (code:List Int) (a s:Int) (l:List Int) (hl:0 < l.length∧l.length≤1048576) (hcode:∀x∈code,0≤x∧x≤255) (hcl:code.length≤9223372036854775807) (ha:0≤a∧a < 18000000000):ConX Try.prog 102 [.ptr 0 0 0,.ref 1] [.box (.agg [.sl (code.map (V.int .u8)),.int .i64 a,.int .u64 s]) .shal,.arr (l.map (V.int .i64)) .flat] (fun r O'=>∃(v:Int) (a' s':Int),(v∈l)∧(a≤a'∧a'≤a+2)∧r=.int .i64 v∧O'=[.box (.agg [.sl (code.map (V.int .u8)),.int .i64 a',.int .u64 s']) .shal,.arr (l.map (V.int .i64)) .flat]):=by
 refine v_conX [.tmp 4] [(80,[0])] Try.func102 rfl rfl rfl (by simp [Try.ntmps102]) ?_
 intro Q0 n0 r0
 simp only [Try.ntmps102,envFrom,Nat.reduceAdd]
 have T:=Tys.mk (ai Ty.t3 (ai Ty.t5 (ai Ty.t26 (ai Ty.t48 (ai Ty.t95 (ai Ty.t96 Ty.t98))))))
 have F:=Fc.mk True.intro
 refine yR [0,1] ⟨?_⟩;refine v_seqR [4] ?_;intro K2 k2;refine zq3 ⟨?_⟩;refine zMove ⟨?_⟩;refine zLen ⟨?_⟩;refine v_op ?_;intro K k
 simp only [zE,zM,aStepM,optable,set_some,Nat.reduceEqDiff,reduceIte,Nat.reduceLT,implies_true,forall_const,reduceCtorEq,V.ofValue,V.ofScalar,V.un,V.gd,aExec,lentIds,lendOf,‹Tys _›.h,‹Fc _›.h]
 repeat (refine andC ?_)
 refine aCall_lentXA (pick_con code a s ((l.length:Int)) hcode hcl (by omega)) ?_
 rintro _ _ ⟨v9,a9,s9,h9,k9,rfl,rfl⟩
 obtain ⟨x,hx⟩:∃x,l[v9.toNat]? =some x:=⟨l[v9.toNat]'(by omega),List.getElem?_eq_getElem (by omega)⟩
 refine ⟨_,_,rfl,by first | exact .inr (List.all_eq_true.1 rfl) | exact .inl ⟨rfl,by simp [Blk.kindIs,fillK_fd,thK_fd]⟩,?_⟩;refine k _ ?_;clear k K
 simp only [zY,zW,set_some,Nat.reduceEqDiff,reduceIte,rho_one,rho_s,rho2_s,rho2_0,rho2_1,V.ren,V.renL,List.set_cons_zero,List.set_cons_succ,rho,Nat.reduceAdd,Nat.add_zero]
 have F:=Fc.mk (gdm hx)
 refine zIndexAddr ⟨?_⟩;refine zLoad ⟨?_⟩;refine zAssign ⟨?_⟩;refine k2 _ ?_;refine zq2 ⟨?_⟩;refine ret_viewX ?_
 exact ⟨_,_,_,List.mem_of_getElem? hx,by omega,rfl,rfl⟩
theorem u8_all {c:List Int} (h:∀a∈c,(Lit.int .u8 a).wf=true):∀x∈c,0≤x∧x≤255:=by
  intro x hx
  have:=h x hx
  simp [Lit.wf,IntKind.min,IntKind.max,IntKind.signed,IntKind.bits] at this
  omega
def dropOw (ow:Ow) (id:Nat):Ow:=fun b=>match ow b with
  | some (r,j)=>if j=id then none else some (r,j)
  | none=>none
theorem dropOw_ne {ow:Ow} {id b:Nat} (h:dropOw ow id b≠none):ow b≠none:=fun e=>h (by simp [dropOw,e])
theorem dropOw_keep {ow:Ow} {id b j:Nat} {r:Bool} (h:ow b=some (r,j)) (hj:j≠id):dropOw ow id b=ow b:=by simp [dropOw,h,hj]
theorem dropOw_in {ow:Ow} {id b:Nat} {r:Bool} (h:ow b=some (r,id)):dropOw ow id b=none:=by simp [dropOw,h]
theorem vok_drop {cx:Cx} {ow:Ow} {vw:Bool} {b:Nat} (id:Nat) (h:VOK cx ow vw b):VOK cx (dropOw ow id) vw b:=by
  refine ⟨?_,h.2⟩
  rcases h.1 with e | ⟨v,j,e⟩
  · exact .inl (by simp [dropOw,e])
  · by_cases q:j=id
    · exact .inl (by subst q;exact dropOw_in e)
    · exact .inr ⟨v,j,by rw [dropOw_keep e q];exact e⟩
theorem row_drop {cx:Cx} {w:World} {μ:Nat→Option Vm.Loc} {ow:Ow} {vw:Bool} {id j:Nat} {xs:List V} {k:Kd} (hj:j≠id) (h:RowOK cx w μ ow vw j xs k):RowOK cx w μ (dropOw ow id) vw j xs k:=by
  obtain ⟨l,h1,h2,h3⟩:=h
  refine ⟨l,h1,h2,h3.imp (fun z=>z) fun ⟨a1,a2,bl,a3,a4,a5⟩=>⟨a1,(dropOw_keep a2 hj).trans a2,bl,a3,?_,a5⟩⟩
  cases k with
  | flat=>exact a4
  | thin=>exact a4
  | deep | part=>exact ⟨a4.1,fun b hb=>(dropOw_keep (a4.2 b hb) hj).trans (a4.2 b hb)⟩
  | shal=>exact fun b hb=>vok_drop id (a4 b hb)
  | mix=>exact fun b hb=>vok_drop id (a4 b hb)
theorem weak_giveup {m:Nat} {s:St} (t i:Nat) (xs:List V) (k:Kd) (ht:s.get t=.ref i) (hO:s.O[i]? =some (.arr xs k)) (hk:k=.flat∨k=.deep∨k=.thin):Weak m s {s with env:=(t,.sl xs)::s.env,O:=s.O.set i .dead}:=by
  intro cx a w μ ow hmu h
  have hli:i < s.O.length:=(List.getElem?_eq_some_iff.1 hO).1
  have htc:takeCell s (.ref i)=some (.sl xs,[i],false):=by
    simp only [takeCell,St.row,hO,Option.bind_some,Blk.row]
    rcases hk with e | e | e<;>subst e<;>rfl
  refine ⟨μ,dropOw ow i,h.dfr,h.sz,fun t2=> ?_,fun j bk e=> ?_,fun j hj=>h.dom j (by rwa [List.length_set] at hj),fun b hb=>h.owl b (dropOw_ne hb),fun b hb=>h.own b (dropOw_ne hb),h.frm,h.mu⟩
  · obtain ⟨bl,r1,r2⟩:=h.env t2
    show ∃bl,Rep w μ (Vm.look t2 ((t,V.sl xs)::s.env)) _ bl∧_
    rw [look_cons]
    by_cases q:t2=t
    · subst q
      rw [if_pos rfl]
      rw [ht] at r1
      obtain ⟨bl',t1,_,_,t4,_⟩:=takeCell_rep h.sup r1 r2 htc
      obtain ⟨_,own⟩:=t4 rfl
      refine ⟨bl',t1.keep (MLe.zero μ) fun _ _=>rfl,fun b hb=> ?_⟩
      obtain ⟨j,hj,r,e⟩:=own b hb
      rw [List.mem_singleton] at hj
      subst hj
      exact ⟨.inl (dropOw_in e),.inr (h.own b (by rw [e];simp))⟩
    · rw [if_neg q]
      exact ⟨bl,r1,fun b hb=>vok_drop i (r2 b hb)⟩
  · have e2:(s.O.set i .dead)[j]? =some bk:=e
    by_cases q:j=i
    · subst q
      rw [List.getElem?_set_self hli] at e2
      simp only [Option.some.injEq] at e2
      subst e2
      trivial
    · rw [List.getElem?_set_ne (fun z=>q z.symm)] at e2
      have:=h.blk j bk e2
      cases bk with
      | dead=>trivial
      | arr ys k2=>exact row_drop q this
      | box y k2=>exact row_drop q this
theorem big_con (c1 c2:List Int) (h1:c1.length≤9223372036854775807) (h2:c2.length≤9223372036854775807):Con Try.prog 21 [.sl (c1.map (V.int .u8)),.sl (c2.map (V.int .u8))] [] (.bool (decide ((c1.length:Int) > 1048576) || decide ((c2.length:Int) > 1048576 - c1.length))) []:=by
 refine v_con [.tmp 4] [] Try.func21 rfl rfl rfl (by simp [Try.ntmps21]) ?_
 intro Q0 n0 r0
 simp only [Try.ntmps21,envFrom,Nat.reduceAdd]
 have T:=Tys.mk (ai Ty.t3 (ai Ty.t5 Ty.t48))
 have F:=Fc.mk True.intro
 refine yR [0,1] ⟨?_⟩;refine yR [4] ⟨?_⟩;refine zr ⟨?_⟩
 exact ret_pure rfl (by first | rfl | simp) (.inl rfl)
theorem sameInts_con (l:List (Int)) (hl:l.length≤1048576):Con Try.prog 67 [.sl (l.map (V.int .i64)),.sl (l.map (V.int .i64))] [] (.bool true) []:=by
 refine v_con [.tmp 4] [] Try.func67 rfl rfl rfl (by simp [Try.ntmps67]) ?_
 intro Q0 n0 r0
 simp only [Try.ntmps67,envFrom,Nat.reduceAdd]
 have T:=Tys.mk (ai Ty.t3 Ty.t26)
 have F:=Fc.mk True.intro
 refine yR [0,1] ⟨?_⟩;refine v_seq ?_;intros;refine yR [0,1,10] ⟨?_⟩;refine v_cond _ rfl ?_ ?_
 ·intro hc0
  exfalso;simp at hc0
 ·intro hc0
  try simp only [zC,reduceCtorEq] at hc0
  refine zn [0,1] ⟨?_⟩;refine v_seq ?_;intros;refine yR [0,1,12,13] ⟨?_⟩;refine v_block ?_;intros;refine v_loop (fun i=>⟨[(0,.sl (l.map (V.int .i64))),(1,.sl (l.map (V.int .i64))),(12,.int .i64 l.length),(13,.int .i64 (Nat.cast i))],[],false,26,0⟩) (fun i=>i≤l.length) (fun i=>l.length - i) 0 ?_ ?_ ?_
  ·refine weak_of [0,1,12,13] ?_
   simp only [keep_mk,keepE_nil,keepE_cons,look_cons,look_nil,Nat.reduceEqDiff,reduceIte]
   rfl
  ·exact Nat.zero_le _
  ·rintro i hok8 Q8 n8 e8 r8
   have hi1:i≤l.length:=hok8
   refine yR [0,1,12,13,14] ⟨?_⟩;refine v_seq ?_;intros;refine v_condS _ rfl ?_ ?_
   ·intro hc1
    have hlt:i < l.length:=by omega
    obtain ⟨x,hx⟩:∃x,l[i]? =some x:=⟨l[i],List.getElem?_eq_getElem hlt⟩
    refine zn [0,1,12,13] ⟨?_⟩;refine v_seq ?_;intros;refine v_block ?_;intros
    have F:=Fc.mk (gdm hx)
    refine yR [0,1,5,12,13] ⟨?_⟩;refine v_seq ?_;intro Q15 n15 e15 r15;refine v_draw (by kernel_rfl) ?_;intro K16 q16 k16
    show aAny _ _ _ _ 9 (Array.replicate 9 false) _
    refine zdMove q16 true 0 16 ?_;refine zdMove q16 true 1 17 ?_;refine zdIndexAddr q16 true 2 18 ?_;refine zdLoad q16 true 3 19 ?_;refine zdMove q16 true 4 20 ?_;refine zdMove q16 true 5 21 ?_;refine zdIndexAddr q16 true 6 22 ?_;refine zdLoad q16 true 7 23 ?_;refine zdBinOp q16 true 8 24 ?_;refine aAny_done (by kernel_rfl) ?_;refine k16 _ ?_;refine n15 _ _ (weak_keep [0,1,12,13,24] _) ?_;refine zk ⟨?_⟩;refine v_cond _ rfl ?_ ?_
    ·intro hc2
     exfalso;simp at hc2
    ·intro hc2
     try simp only [zC,reduceCtorEq] at hc2
     refine zn [0,1,12,13] ⟨?_⟩;refine yV ⟨?_⟩;refine n8 _ (i+1) ?_ ?_ ?_
     ·refine weak_bothS [0,1,12,13] [] ⟨?_⟩
      rfl
     ·exact hlt
     ·show _ < _;omega
   ·intro hc1
    refine zn [] ⟨?_⟩;refine yR [4] ⟨?_⟩;refine zr ⟨?_⟩
    exact ret_pure rfl rfl (.inl rfl)
theorem sameLists_con (d:List (List Int)) (hd:d.length≤1048576) (hds:∀l∈d,l.length≤1048576):Con Try.prog 25 [.sl (d.map fun l=>V.sl (l.map (V.int .i64))),.sl (d.map fun l=>V.sl (l.map (V.int .i64)))] [] (.bool true) []:=by
 refine v_con [.tmp 4] [] Try.func25 rfl rfl rfl (by simp [Try.ntmps25]) ?_
 intro Q0 n0 r0
 simp only [Try.ntmps25,envFrom,Nat.reduceAdd]
 have T:=Tys.mk (ai Ty.t3 (ai Ty.t4 (ai Ty.t26 Ty.t53)))
 have F:=Fc.mk True.intro
 refine yR [0,1] ⟨?_⟩;refine v_seq ?_;intros;refine yR [0,1,10] ⟨?_⟩;refine v_cond _ rfl ?_ ?_
 ·intro hc0
  exfalso;simp at hc0
 ·intro hc0
  try simp only [zC,reduceCtorEq] at hc0
  refine zn [0,1] ⟨?_⟩;refine v_seq ?_;intros;refine yR [0,1,12,13] ⟨?_⟩;refine v_block ?_;intros;refine v_loop (fun i=>⟨[(0,.sl (d.map fun l=>V.sl (l.map (V.int .i64)))),(1,.sl (d.map fun l=>V.sl (l.map (V.int .i64)))),(12,.int .i64 d.length),(13,.int .i64 (Nat.cast i))],[],false,27,0⟩) (fun i=>i≤d.length) (fun i=>d.length - i) 0 ?_ ?_ ?_
  ·refine weak_of [0,1,12,13] ?_
   simp only [keep_mk,keepE_nil,keepE_cons,look_cons,look_nil,Nat.reduceEqDiff,reduceIte]
   rfl
  ·exact Nat.zero_le _
  ·rintro i hok8 Q8 n8 e8 r8
   have hi1:i≤d.length:=hok8
   refine yR [0,1,12,13,14] ⟨?_⟩;refine v_seq ?_;intros;refine v_condS _ rfl ?_ ?_
   ·intro hc1
    have hlt:i < d.length:=by omega
    obtain ⟨x,hx⟩:∃x,d[i]? =some x:=⟨d[i],List.getElem?_eq_getElem hlt⟩
    have hlx:=hds x (List.mem_of_getElem? hx)
    refine zn [0,1,12,13] ⟨?_⟩;refine v_seq ?_;intros;refine v_block ?_;intros
    have F:=Fc.mk (gdm hx)
    refine yR [0,1,5,12,13] ⟨?_⟩;refine v_seq ?_;intro Q15 n15 e15 r15;refine v_draw (by kernel_rfl) ?_;intro K16 q16 k16
    show aAny _ _ _ _ 10 (Array.replicate 10 false) _
    refine zdMove q16 true 0 16 ?_;refine zdMove q16 true 1 17 ?_;refine zdIndexAddr q16 true 2 18 ?_;refine zdLoad q16 true 3 19 ?_;refine zdMove q16 true 4 20 ?_;refine zdMove q16 true 5 21 ?_;refine zdIndexAddr q16 true 6 22 ?_;refine zdLoad q16 true 7 23 ?_;refine zoc 8 (sameInts_con x hlx) ⟨?_⟩;refine zdUnOp q16 true 9 25 ?_;refine aAny_done (by kernel_rfl) ?_;refine k16 _ ?_;refine n15 _ _ (weak_keep [0,1,12,13,25] _) ?_;refine zk ⟨?_⟩;refine v_cond _ rfl ?_ ?_
    ·intro hc2
     exfalso;simp at hc2
    ·intro hc2
     try simp only [zC,reduceCtorEq] at hc2
     refine zn [0,1,12,13] ⟨?_⟩;refine yV ⟨?_⟩;refine n8 _ (i+1) ?_ ?_ ?_
     ·refine weak_bothS [0,1,12,13] [] ⟨?_⟩
      rfl
     ·exact hlt
     ·show _ < _;omega
   ·intro hc1
    refine zn [] ⟨?_⟩;refine yR [4] ⟨?_⟩;refine zr ⟨?_⟩
    exact ret_pure rfl rfl (.inl rfl)
end Go.Proofs.Ytcdpeopiajgljaa
