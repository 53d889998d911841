/- What functions compute. No condition. -/
import Derived.Test.YtmhaafinhpopmaaGreatDoorX1
set_option linter.unusedSimpArgs false
set_option linter.unusedVariables false
set_option linter.defProp false
namespace Go.Proofs.YtmhaafinhpopmaaGreatDoor
open Go Go.Vm
set_option maxHeartbeats 8000000
def okAt (s:ByteArray) (i:Nat):Bool:=(decide (97≤byteAt s i) && decide (byteAt s i≤122)) || ((decide (48≤byteAt s i) && decide (byteAt s i≤57)) && !decide (i=0))
def nameB (s:ByteArray):Bool:=(List.range s.size).all (okAt s) && (decide (1≤(s.size:Int)) && decide ((s.size:Int)≤6))
theorem name_bad {s:ByteArray} {i:Nat} (hi:i < s.size) (h:okAt s i=false):nameB s=false:=by
  have:(List.range s.size).all (okAt s)=false:=by
    rw [List.all_eq_false];exact ⟨i,List.mem_range.2 hi,by rw [h];simp⟩
  rw [nameB,this];rfl
theorem name_good {s:ByteArray} {i:Nat} (hi:s.size≤i) (h:∀j,j < i→okAt s j=true):nameB s=(decide (1≤(s.size:Int)) && decide ((s.size:Int)≤6)):=by
  have:(List.range s.size).all (okAt s)=true:=by
    rw [qls];intro j hj;exact h j (ql0 (List.mem_range.1 hj) hi)
  rw [nameB,this];rfl
theorem ok_step {s:ByteArray} {i:Nat} (h:∀j,j < i→okAt s j=true) (hi:okAt s i=true):∀j,j < i+1→okAt s j=true:=by
  intro j hj;rcases qlt j i with q | q
  · exact h j q
  · have:j=i:=by omega
    subst this;exact hi
theorem apName_con (s:ByteArray) (hs:s.size≤9223372036854775807):Con Tryz.prog 213 [.str s] [] (.bool (nameB s)) []:=by
 refine v_con [.tmp 2] [] Tryz.func213 rfl rfl rfl (by simp [Tryz.ntmps213]) ?_;intro Q0 n0 r0;simp only [Tryz.ntmps213,envFrom,Nat.reduceAdd];have T:=Tys.mk (ai Ty.t3 (ai Ty.t4 (ai Ty.t5 Ty.t9)));have F:=Fc.mk True.intro;refine yR [0] ⟨?_⟩;refine v_seq ?_;intros;refine yR [0,3] ⟨?_⟩;refine v_block ?_;intros;refine v_loop (fun i=>⟨[(0,.str s),(3,.int .i64 (Nat.cast i))],[],false,45,0⟩) (fun i=>i≤s.size∧∀j,j < i→okAt s j=true) (fun i=>s.size - i) 0 ?_ ?_ ?_
 ·refine weak_of [0,3] ?_;simp only [keep_mk,keepE_nil,keepE_cons,look_cons,look_nil,Nat.reduceEqDiff,reduceIte];rfl
 ·exact ⟨qld _,fun j h=>absurd h (Nat.not_lt_zero _)⟩
 ·rintro i hok5 Q5 n5 e5 r5;obtain ⟨hi1,hR⟩:=hok5;refine v_seq ?_;intros;refine yR [0,3,9] ⟨?_⟩;refine v_condS _ rfl ?_ ?_
  ·intro hc0;have hlt:i < s.size:=by omega
   refine zn [0,3] ⟨?_⟩;refine v_seq ?_;intros;refine v_block ?_;intros;refine yR [0,3,4] ⟨?_⟩;refine yR [0,3,4,5] ⟨?_⟩;refine yR [0,3,41] ⟨?_⟩;refine v_condS _ rfl ?_ ?_
   ·intro hc1;have hbad:okAt s i=false:=by simp only [okAt,Bool.or_eq_false_iff,Bool.and_eq_false_imp,decide_eq_true_eq,decide_eq_false_iff_not,Bool.not_eq_false',Bool.and_eq_true];omega
    refine yR [2] ⟨?_⟩;refine zr ⟨?_⟩;exact ret_pure rfl (by rw [name_bad hlt hbad]) (.inl rfl)
   ·intro hc1;have hgood:okAt s i=true:=by simp only [okAt,Bool.or_eq_true,Bool.and_eq_true,decide_eq_true_eq,Bool.not_eq_true',decide_eq_false_iff_not];omega
    refine zn [0,3] ⟨?_⟩;refine yV ⟨?_⟩;refine n5 _ (i+1) ?_ ?_ ?_
    ·refine weak_of [0,3] ?_;simp only [keep_mk,keepE_nil,keepE_cons,look_cons,look_nil,Nat.reduceEqDiff,reduceIte];rfl
    ·exact ⟨by omega,ok_step hR hgood⟩
    ·show _ < _;omega
  ·intro hc0;refine zn [0] ⟨?_⟩;refine yRc [2] (l1In_con _ _ _) ⟨?_⟩;refine zr ⟨?_⟩;exact ret_pure rfl (by rw [name_good (by omega) hR]) (.inl rfl)
theorem isName_con (s:ByteArray) (hs:s.size≤9223372036854775807):Con Tryz.prog 217 [.str s] [] (.bool (nameB s)) []:=by
 refine v_con [.tmp 2] [] Tryz.func217 rfl rfl rfl (by simp [Tryz.ntmps217]) ?_;intro Q0 n0 r0;simp only [Tryz.ntmps217,envFrom,Nat.reduceAdd];have T:=Tys.mk (ai Ty.t3 (ai Ty.t4 (ai Ty.t5 Ty.t9)));have F:=Fc.mk True.intro;refine yR [0] ⟨?_⟩;refine v_seq ?_;intros;refine yR [0,7,8] ⟨?_⟩;refine v_block ?_;intros;refine v_loop (fun i=>⟨[(0,.str s),(7,.int .i64 s.size),(8,.int .i64 (Nat.cast i))],[],false,45,0⟩) (fun i=>i≤s.size∧∀j,j < i→okAt s j=true) (fun i=>s.size - i) 0 ?_ ?_ ?_
 ·refine weak_of [0,7,8] ?_;simp only [keep_mk,keepE_nil,keepE_cons,look_cons,look_nil,Nat.reduceEqDiff,reduceIte];rfl
 ·exact ⟨qld _,fun j h=>absurd h (Nat.not_lt_zero _)⟩
 ·rintro i hok5 Q5 n5 e5 r5;obtain ⟨hi1,hR⟩:=hok5;refine yR [0,7,8,9] ⟨?_⟩;refine v_seq ?_;intros;refine v_condS _ rfl ?_ ?_
  ·intro hc0;have hlt:i < s.size:=by omega
   refine zn [0,7,8] ⟨?_⟩;refine v_seq ?_;intros;refine v_block ?_;intros;refine yR [0,3,7,8] ⟨?_⟩;refine v_seq ?_;intro Q12 n12 e12 r12;refine v_draw (by kernel_rfl) ?_;intro K13 q13 k13;show aAny _ _ _ _ 22 (Array.replicate 22 false) _;refine zdMove q13 true 0 11 ?_;refine zdMove q13 true 1 12 ?_;refine zdIndex q13 true 2 13 ?_;refine zdBinOp q13 true 3 14 ?_;refine zdMove q13 true 4 15 ?_;refine zdgMove q13 true 5 16 ?_;refine zdgMove q13 true 6 17 ?_;refine zdgIndex q13 true 7 18 ?_;refine zdgBinOp q13 true 8 19 ?_;refine zdPick q13 true 9 20 ?_;refine zdMove q13 true 10 21 ?_;refine zdMove q13 true 11 22 ?_;refine zdIndex q13 true 12 23 ?_;refine zdBinOp q13 true 13 24 ?_;refine zdMove q13 true 14 25 ?_;refine zdgMove q13 true 15 26 ?_;refine zdgMove q13 true 16 27 ?_;refine zdgIndex q13 true 17 28 ?_;refine zdgBinOp q13 true 18 29 ?_;refine zdPick q13 true 19 30 ?_;refine zoAssign 20 ⟨?_⟩;refine zoAssign 21 ⟨?_⟩;refine aAny_done (by kernel_rfl) ?_;refine k13 _ ?_;refine n12 _ _ (weak_keep [0,3,4,5,7,8] _) ?_;refine zk ⟨?_⟩;refine yR [0,7,8,40] ⟨?_⟩;refine v_condS _ rfl ?_ ?_
   ·intro hc1;have hbad:okAt s i=false:=by simp only [okAt,Bool.or_eq_false_iff,Bool.and_eq_false_imp,decide_eq_true_eq,decide_eq_false_iff_not,Bool.not_eq_false',Bool.and_eq_true];omega
    refine yR [2] ⟨?_⟩;refine zr ⟨?_⟩;exact ret_pure rfl (by rw [name_bad hlt hbad]) (.inl rfl)
   ·intro hc1;have hgood:okAt s i=true:=by simp only [okAt,Bool.or_eq_true,Bool.and_eq_true,decide_eq_true_eq,Bool.not_eq_true',decide_eq_false_iff_not];omega
    refine zn [0,7,8] ⟨?_⟩;refine yV ⟨?_⟩;refine n5 _ (i+1) ?_ ?_ ?_
    ·refine weak_of [0,7,8] ?_;simp only [keep_mk,keepE_nil,keepE_cons,look_cons,look_nil,Nat.reduceEqDiff,reduceIte];rfl
    ·exact ⟨by omega,ok_step hR hgood⟩
    ·show _ < _;omega
  ·intro hc0;refine zn [0] ⟨?_⟩;refine yRc [2] (inside_con _ _ _) ⟨?_⟩;refine zr ⟨?_⟩;exact ret_pure rfl (by rw [name_good (by omega) hR]) (.inl rfl)
theorem isNaN_int_con (a:Int):Con Tryz.prog 215 [V.int .i64 a] [] (.bool false) []:=by
 refine v_con [.tmp 2] [] Tryz.func215 rfl rfl rfl (by simp [Tryz.ntmps215]) ?_;intro Q0 n0 r0;simp only [Tryz.ntmps215,envFrom,Nat.reduceAdd];have T:=Tys.mk Ty.t3;have F:=Fc.mk True.intro;refine yR [0] ⟨?_⟩;refine yR [2] ⟨?_⟩;refine zr ⟨?_⟩;exact ret_pure rfl (by first | rfl | simp) (.inl rfl)
def cmpI (a b:Int):Int:=if a < b then -1 else if b < a then 1 else 0
def orL:List Int→Int
  | []=>0
  | x::l=>if x≠0 then x else orL l
theorem or_step {l:List Int} {i:Nat} {x:Int} (h:l[i]? =some x):orL (l.drop i)=if x≠0 then x else orL (l.drop (i+1)):=by
  rw [getElem_drop_cons h,orL]
theorem or_end {l:List Int} {i:Nat} (h:l.length≤i):orL (l.drop i)=0:=by
  rw [qle h,orL]
theorem cmpInt_con (a b:Int):Con Tryz.prog 180 [.int .i64 a,.int .i64 b] [] (.int .i64 (cmpI a b)) []:=by
 refine v_con [.tmp 4] [] Tryz.func180 rfl rfl rfl (by simp [Tryz.ntmps180]) ?_;intro Q0 n0 r0;simp only [Tryz.ntmps180,envFrom,Nat.reduceAdd];have T:=Tys.mk (ai Ty.t3 Ty.t4);have F:=Fc.mk True.intro;refine yR [0,1] ⟨?_⟩;refine yRc [0,1,5] (isNaN_int_con _) ⟨?_⟩;refine yRc [0,1,5,6] (isNaN_int_con _) ⟨?_⟩;refine v_seq ?_;intros;refine yR [0,1,6,11] ⟨?_⟩;refine v_cond _ rfl ?_ ?_
 ·intro hc0;exfalso;simp at hc0
 ·intro hc0;try simp only [zC,reduceCtorEq] at hc0
  refine zn [0,1,6] ⟨?_⟩;refine v_seq ?_;intros;refine yR [0,1,13] ⟨?_⟩;refine v_cond _ rfl ?_ ?_
  ·intro hc1;exfalso;simp at hc1
  ·intro hc1;try simp only [zC,reduceCtorEq] at hc1
   refine zn [0,1] ⟨?_⟩;refine v_seq ?_;intros;refine yR [0,1,16] ⟨?_⟩;refine v_condS _ rfl ?_ ?_
   ·intro hc2;refine yR [4] ⟨?_⟩;refine zr ⟨?_⟩;exact ret_pure rfl (by rw [cmpI,if_pos hc2]) (.inl rfl)
   ·intro hc2;refine zn [0,1] ⟨?_⟩;refine v_seq ?_;intros;refine yR [19] ⟨?_⟩;refine v_condS _ rfl ?_ ?_
    ·intro hc3;refine yR [4] ⟨?_⟩;refine zr ⟨?_⟩;exact ret_pure rfl (by rw [cmpI,if_neg (by omega),if_pos hc3]) (.inl rfl)
    ·intro hc3;refine zn [] ⟨?_⟩;refine yR [4] ⟨?_⟩;refine zr ⟨?_⟩;exact ret_pure rfl (by rw [cmpI,if_neg (by omega),if_neg (by omega)]) (.inl rfl)
theorem cmpOr_con (l:List Int) (hl:l.length≤1048576):Con Tryz.prog 179 [.sl (l.map (V.int .i64))] [] (.int .i64 (orL l)) []:=by
 refine v_con [.tmp 2] [] Tryz.func179 rfl rfl rfl (by simp [Tryz.ntmps179]) ?_;intro Q0 n0 r0;simp only [Tryz.ntmps179,envFrom,Nat.reduceAdd];have T:=Tys.mk (ai Ty.t3 Ty.t35);have F:=Fc.mk True.intro;refine yR [0] ⟨?_⟩;refine yR [0,3] ⟨?_⟩;refine v_seq ?_;intros;refine yR [3,6,7,8] ⟨?_⟩;refine v_block ?_;intros;refine v_loop (fun i=>⟨[(3,.int .i64 0),(6,.sl (l.map (V.int .i64))),(7,.int .i64 l.length),(8,.int .i64 (Nat.cast i))],[],false,18,0⟩) (fun i=>i≤l.length∧orL (l.drop i)=orL l) (fun i=>l.length - i) 0 ?_ ?_ ?_
 ·refine weak_of [3,6,7,8] ?_;simp only [keep_mk,keepE_nil,keepE_cons,look_cons,look_nil,Nat.reduceEqDiff,reduceIte];rfl
 ·exact ⟨qld _,rfl⟩
 ·rintro i hok6 Q6 n6 e6 r6;obtain ⟨hi1,hR⟩:=hok6;refine yR [3,6,7,8,9] ⟨?_⟩;refine v_seq ?_;intros;refine v_condS _ rfl ?_ ?_
  ·intro hc0;have hlt:i < l.length:=by omega
   obtain ⟨y,hy⟩:∃y,l[i]? =some y:=⟨l[i],qla hlt⟩;have hst:=or_step hy;refine zn [3,6,7,8] ⟨?_⟩;refine v_seq ?_;intros;refine v_block ?_;intros;have F:=Fc.mk (gdm hy);refine yR [3,5,6,7,8] ⟨?_⟩;refine yR [3,5,6,7,8,14] ⟨?_⟩;refine v_condS _ rfl ?_ ?_
   ·intro hc1;refine yR [2] ⟨?_⟩;refine zr ⟨?_⟩;exact ret_pure rfl (by rw [←hR,hst,if_pos hc1]) (.inl rfl)
   ·intro hc1;refine zn [3,6,7,8] ⟨?_⟩;refine yV ⟨?_⟩;refine n6 _ (i+1) ?_ ?_ ?_
    ·refine weak_of [3,6,7,8] ?_;simp only [keep_mk,keepE_nil,keepE_cons,look_cons,look_nil,Nat.reduceEqDiff,reduceIte];rfl
    ·exact ⟨by omega,by rw [←hR,hst,if_neg (by simp [hc1])]⟩
    ·show _ < _;omega
  ·intro hc0;refine zn [3] ⟨?_⟩;refine yR [2] ⟨?_⟩;refine zr ⟨?_⟩;exact ret_pure rfl (by rw [←hR,or_end (by omega)]) (.inl rfl)
def chainFrom {α:Type} (ok:α→Bool) (bf:α→α→Bool):Option α→List α→Bool
  | _,[]=>true
  | none,x::l=>ok x && chainFrom ok bf (some x) l
  | some p,x::l=>ok x && bf p x && chainFrom ok bf (some x) l
def chainAt {α:Type} (ok:α→Bool) (bf:α→α→Bool) (l:List α) (i:Nat):Bool:=chainFrom ok bf (if i=0 then none else l[i - 1]?) (l.drop i)
theorem chain_zero {α:Type} {ok:α→Bool} {bf:α→α→Bool} {l:List α} {x:α} (h:l[0]? =some x):chainAt ok bf l 0=(ok x && chainAt ok bf l 1):=by
  simp only [chainAt,getElem_drop_cons h,if_true,chainFrom];simp [h]
theorem chain_succ {α:Type} {ok:α→Bool} {bf:α→α→Bool} {l:List α} {x y:α} {i:Nat} (h0:0 < i) (hy:l[i - 1]? =some y) (h:l[i]? =some x):chainAt ok bf l i=(ok x && bf y x && chainAt ok bf l (i+1)):=by
  simp only [chainAt,getElem_drop_cons h,hy,show ¬i=0 by omega,if_false,chainFrom];simp [h]
theorem chain_end {α:Type} {ok:α→Bool} {bf:α→α→Bool} {l:List α} {i:Nat} (h:l.length≤i):chainAt ok bf l i=true:=by
  simp only [chainAt,List.drop_of_length_le h];split<;>rfl
theorem chainFrom_ok {α:Type} {ok:α→Bool} {bf:α→α→Bool}:∀{l:List α} {p:Option α},chainFrom ok bf p l=true→∀x∈l,ok x=true
  | [],_,_,x,hx=>by cases hx
  | y ::l,p,h,x,hx=>by
    have h2:ok y=true∧chainFrom ok bf (some y) l=true:=by
      cases p<;>simp [chainFrom] at h<;>simp [h]
    rcases qly.1 hx with rfl | h3
    · exact h2.1
    · exact chainFrom_ok h2.2 x h3
theorem chain_ok {α:Type} {ok:α→Bool} {bf:α→α→Bool} {l:List α} (h:chainAt ok bf l 0=true):∀x∈l,ok x=true:=chainFrom_ok h
theorem strLt_irrefl (a:ByteArray):strLt a a=false:=by
  unfold strLt;generalize a.toList=l
  induction l with
  | nil=>rfl
  | cons x l ih=>simp [Op.bytesLess,ih]
def markD:Nat→Int→ByteArray→ByteArray
  | 0,_,out=>out
  | m+1,k,out=>if 0 < k then markD m (k / 10) (strOf [IntKind.u8.wrap (48+k % 10)]++out) else out
def markT (k:Int):ByteArray:=if k≤0 then ⟨#[109,48]⟩ else ⟨#[109]⟩++markD 19 k ⟨#[]⟩
theorem markD_stop {m:Nat} {k:Int} {out:ByteArray} (h:¬0 < k):markD m k out=out:=by
  cases m with
  | zero=>rfl
  | succ m=>rw [markD,if_neg h]
theorem str1 (n:Int):(strOf [n]).size=1:=rfl
theorem markText_con (n:Int) (hn:n≤1152921504606846976):Con Tryz.prog 101 [.int .i64 n] [] (.str (markT n)) []:=by
 have hz1:(⟨#[109]⟩:ByteArray).size=1:=rfl;refine v_con [.tmp 2] [] Tryz.func101 rfl rfl rfl (by simp [Tryz.ntmps101]) ?_;intro Q0 n0 r0;simp only [Tryz.ntmps101,envFrom,Nat.reduceAdd];have T:=Tys.mk (ai Ty.t3 (ai Ty.t5 (ai Ty.t9 Ty.t22)));have F:=Fc.mk True.intro;refine yR [0] ⟨?_⟩;refine v_seq ?_;intros;refine yR [0,5] ⟨?_⟩;refine v_condS _ rfl ?_ ?_
 ·intro hc0;refine yR [2] ⟨?_⟩;refine zr ⟨?_⟩;exact ret_pure rfl (by rw [markT,if_pos hc0]) (.inl rfl)
 ·intro hc0;refine zn [0] ⟨?_⟩;refine yR [0,3] ⟨?_⟩;refine v_seq ?_;intros;refine v_block ?_;intros;refine v_loop (fun p=>⟨[(0,.int .i64 p.2.1),(3,.str p.2.2)],[],false,20,0⟩) (fun p=>0≤p.2.1∧p.2.1 < 10 ^ p.1∧p.2.1≤1152921504606846976∧p.2.2.size+p.1≤100∧markD p.1 p.2.1 p.2.2=markD 19 n ⟨#[]⟩) (fun p=>p.1) ((19,n,⟨#[]⟩):Nat×Int×ByteArray) ?_ ?_ ?_
  ·refine weak_of [0,3] ?_;simp only [keep_mk,keepE_nil,keepE_cons,look_cons,look_nil,Nat.reduceEqDiff,reduceIte];all_goals rfl
  ·exact ⟨by show 0≤n;omega,by show n < (10:Int) ^ 19;rw [show (10:Int) ^ 19=10000000000000000000 from by decide];omega,hn,by show (0:Nat)+19≤100;omega,rfl⟩
  ·rintro ⟨m0,k,out⟩ hok9 Q9 n9 e9 r9;obtain ⟨hk1,hk2,hk3,hk4,hR⟩:=hok9;simp only [] at hk1 hk2 hk3 hk4 hR⊢;refine v_seq ?_;intros;refine yR [0,3,7] ⟨?_⟩;refine v_condS _ rfl ?_ ?_
   ·intro hc1;obtain ⟨m,rfl⟩:∃m',m0=m'+1:=⟨m0 - 1,by cases m0 with | zero=>(simp at hk2;omega) | succ n=>rfl⟩
    have hq:k.tdiv 10=k / 10:=Int.tdiv_eq_ediv_of_nonneg (by omega);have hr:k.tmod 10=k % 10:=Int.tmod_eq_emod_of_nonneg (by omega);have hs1:=str1 (IntKind.u8.wrap (48+k % 10));have hpow:(10:Int) ^ (m+1)=10 * 10 ^ m:=by rw [Int.pow_succ];omega
    refine zn [0,3] ⟨?_⟩;refine v_block ?_;intros;have F:=Fc.mk (ai hq hr);refine yR [0,3] ⟨?_⟩;refine yV ⟨?_⟩;refine n9 _ (m,k / 10,strOf [IntKind.u8.wrap (48+k % 10)]++out) ?_ ?_ ?_
    ·refine weak_both [0,3] [] (by decide) (by simp) ?_ ?_ ?_
     ·simp [keep_mk,keepE_nil,keepE_cons,look_cons,V.only,V.onlyL,idx]<;>(first | rfl | decide)
     ·simp [Blk.kindIs,fillK_mix,thK_mix]
     simp only [keep_mk,keepE_nil,keepE_cons,look_cons,look_nil,Nat.reduceEqDiff,reduceIte,St.comp,List.map_cons,List.map_nil,V.ren,V.renL,idx,List.getD_cons_zero,List.getD_cons_succ,Nat.reduceBEq,cond_true,cond_false,Option.map_some,Option.getD_some,Nat.reduceAdd,Nat.beq_eq_true_eq];all_goals rfl
    ·exact ⟨by show 0≤k / 10;omega,by show k / 10 < 10 ^ m;omega,by show k / 10≤_;omega,by show (strOf [IntKind.u8.wrap (48+k % 10)]++out).size+m≤100;rw [ByteArray.size_append,hs1];omega,by rw [←hR];show markD m (k / 10) _=markD (m+1) k out;rw [markD,if_pos (by omega)]⟩
    ·show m < m+1;omega
   ·intro hc1;refine zn [3] ⟨?_⟩;refine yR [2] ⟨?_⟩;refine zr ⟨?_⟩;exact ret_pure rfl (by rw [markT,if_neg (by omega),←hR,markD_stop (by omega)]) (.inl rfl)
def markG {α:Type} (g:Nat→α) (n:Nat):List α:=(List.range n).map g
theorem markG_succ {α:Type} (g:Nat→α) (n:Nat):markG g (n+1)=markG g n++[g n]:=by simp [markG,List.range_succ]
theorem markG_len {α:Type} (g:Nat→α) (n:Nat):(markG g n).length=n:=by simp [markG]
theorem markG_step {α:Type} {g:Nat→α} {l:List α} {i:Nat} {x:α} (h:l[i]? =some x):(markG g i++l.drop i).set i (g i)=markG g (i+1)++l.drop (i+1):=by
  rw [getElem_drop_cons h,markG_succ,List.set_append_right _ _ (by rw [markG_len];omega),markG_len,Nat.sub_self,List.set_cons_zero,List.append_assoc];rfl
theorem markG_get {α:Type} {g:Nat→α} {l:List α} {i:Nat} {x:α} (h:l[i]? =some x):(markG g i++l.drop i)[i]? =some x:=by
  rw [qlj (by rw [markG_len];omega),markG_len,Nat.sub_self,getElem_drop_cons h];rfl
theorem markG_all {α:Type} {g:Nat→α} {l:List α} {i:Nat} (h:i≤l.length):(markG g i++l.drop i).length=l.length:=by simp [markG_len];omega
end Go.Proofs.YtmhaafinhpopmaaGreatDoor
