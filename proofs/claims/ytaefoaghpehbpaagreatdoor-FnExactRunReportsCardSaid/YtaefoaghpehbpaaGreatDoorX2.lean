/- What functions compute. No condition. -/
import Derived.Test.YtaefoaghpehbpaaGreatDoorUz
import Derived.Test.YtaefoaghpehbpaaGreatDoorUty
import Derived.Test.YtaefoaghpehbpaaGreatDoorUmG
import Derived.Test.YtaefoaghpehbpaaGreatDoorX1
set_option linter.unusedSimpArgs false
set_option linter.unusedVariables false
set_option linter.defProp false
namespace Go.Proofs.YtaefoaghpehbpaaGreatDoor
open Go Go.Vm
set_option maxHeartbeats 8000000
def idxFrom (x:Int):Nat→List Int→Int
  | _,[]=>-1
  | i,y::l=>if x=y then i else idxFrom x (i+1) l
theorem idx_step {x y:Int} {l:List Int} {i:Nat} (h:l[i]? =some y):idxFrom x i (l.drop i)=if x=y then (i:Int) else idxFrom x (i+1) (l.drop (i+1)):=by
  rw [getElem_drop_cons h,idxFrom]
theorem idx_end {x:Int} {l:List Int} {i k:Nat} (h:l.length≤i):idxFrom x k (l.drop i)=-1:=by
  rw [List.drop_of_length_le h,idxFrom]
theorem idx_mem (x:Int):∀(l:List Int) (i:Nat),(0≤idxFrom x i l)↔x∈l
  | [],i=>by simp [idxFrom]
  | y::l,i=>by
    rw [idxFrom,List.mem_cons]
    split
    · rename_i h;simp [h]
    · rename_i h;rw [idx_mem x l (i+1)];simp [h]
theorem any_drop {α:Type} {f:α→Bool} {l:List α} {i:Nat} {x:α} (h:l[i]? =some x):(l.drop i).any f=(f x || (l.drop (i+1)).any f):=by
  rw [getElem_drop_cons h,List.any_cons]
theorem any_end {α:Type} {f:α→Bool} {l:List α} {i:Nat} (h:l.length≤i):(l.drop i).any f=false:=by
  rw [List.drop_of_length_le h];rfl
theorem slIndex_con (l:List Int) (x:Int) (hl:l.length≤1048576):Con Tryz.prog 233 [.sl (l.map (V.int .i64)),.int .i64 x] [] (.int .i64 (idxFrom x 0 l)) []:=by
 refine v_con [.tmp 4] [] Tryz.func233 rfl rfl rfl (by simp [Tryz.ntmps233]) ?_
 intro Q0 n0 r0
 simp only [Tryz.ntmps233,envFrom,Nat.reduceAdd]
 have T:=Tys.mk (ai Ty.t3 Ty.t49)
 have F:=Fc.mk True.intro
 refine yR [0,1] ⟨?_⟩;refine v_seq ?_;intros;refine yR [0,1,7,8] ⟨?_⟩;refine v_block ?_;intros;refine v_loop (fun i=>⟨[(0,.sl (l.map (V.int .i64))),(1,.int .i64 x),(7,.int .i64 l.length),(8,.int .i64 (Nat.cast i))],[],false,19,0⟩) (fun i=>i≤l.length∧idxFrom x i (l.drop i)=idxFrom x 0 l) (fun i=>l.length - i) 0 ?_ ?_ ?_
 ·refine weak_of [0,1,7,8] ?_
  simp only [keep_mk,keepE_nil,keepE_cons,look_cons,look_nil,Nat.reduceEqDiff,reduceIte]
  rfl
 ·exact ⟨Nat.zero_le _,rfl⟩
 ·rintro i hok5 Q5 n5 e5 r5
  obtain ⟨hi1,hR⟩:=hok5
  refine yR [0,1,7,8,9] ⟨?_⟩;refine v_seq ?_;intros;refine v_condS _ rfl ?_ ?_
  ·intro hc0
   have hlt:i < l.length:=by omega
   obtain ⟨y,hy⟩:∃y,l[i]? =some y:=⟨l[i],List.getElem?_eq_getElem hlt⟩
   have hst:=idx_step (x:=x) hy
   refine zn [0,1,7,8] ⟨?_⟩;refine v_seq ?_;intros;refine v_block ?_;intros
   have F:=Fc.mk (gdm hy)
   refine yR [0,1,5,7,8] ⟨?_⟩;refine yR [0,1,5,7,8,16] ⟨?_⟩;refine v_condS _ rfl ?_ ?_
   ·intro hc1
    refine yR [4] ⟨?_⟩;refine zr ⟨?_⟩
    exact ret_pure rfl (by rw [←hR,hst,if_pos hc1]) (.inl rfl)
   ·intro hc1
    refine zn [0,1,7,8] ⟨?_⟩;refine yV ⟨?_⟩;refine n5 _ (i+1) ?_ ?_ ?_
    ·refine weak_of [0,1,7,8] ?_
     simp only [keep_mk,keepE_nil,keepE_cons,look_cons,look_nil,Nat.reduceEqDiff,reduceIte]
     rfl
    ·exact ⟨by omega,by rw [←hR,hst,if_neg hc1]⟩
    ·show _ < _;omega
  ·intro hc0
   refine zn [] ⟨?_⟩;refine yR [4] ⟨?_⟩;refine zr ⟨?_⟩
   exact ret_pure rfl (by rw [←hR,idx_end (by omega)]) (.inl rfl)
theorem slContains_con (l:List Int) (x:Int) (hl:l.length≤1048576):Con Tryz.prog 202 [.sl (l.map (V.int .i64)),.int .i64 x] [] (.bool (decide (x∈l))) []:=by
 refine v_con [.tmp 4] [] Tryz.func202 rfl rfl rfl (by simp [Tryz.ntmps202]) ?_
 intro Q0 n0 r0
 simp only [Tryz.ntmps202,envFrom,Nat.reduceAdd]
 have T:=Tys.mk (ai Ty.t3 Ty.t49)
 have F:=Fc.mk True.intro
 refine yR [0,1] ⟨?_⟩;refine yRc [4] (slIndex_con l x hl) ⟨?_⟩;refine zr ⟨?_⟩
 exact ret_pure rfl (by congr 1;exact decide_eq_decide.2 (idx_mem x l 0)) (.inl rfl)
theorem l1Has_con (l:List Int) (x:Int) (hl:l.length≤1048576):Con Tryz.prog 243 [.sl (l.map (V.int .i64)),.int .i64 x] [] (.bool (decide (x∈l))) []:=by
 refine v_con [.tmp 4] [] Tryz.func243 rfl rfl rfl (by simp [Tryz.ntmps243]) ?_
 intro Q0 n0 r0
 simp only [Tryz.ntmps243,envFrom,Nat.reduceAdd]
 have T:=Tys.mk (ai Ty.t3 Ty.t49)
 have F:=Fc.mk True.intro
 refine yR [0,1] ⟨?_⟩;refine v_seq ?_;intros;refine yR [1,7,8,9] ⟨?_⟩;refine v_block ?_;intros;refine v_loop (fun i=>⟨[(1,.int .i64 x),(7,.sl (l.map (V.int .i64))),(8,.int .i64 l.length),(9,.int .i64 (Nat.cast i))],[],false,17,0⟩) (fun i=>i≤l.length∧(x∈l.drop i↔x∈l)) (fun i=>l.length - i) 0 ?_ ?_ ?_
 ·refine weak_of [1,7,8,9] ?_
  simp only [keep_mk,keepE_nil,keepE_cons,look_cons,look_nil,Nat.reduceEqDiff,reduceIte]
  rfl
 ·exact ⟨Nat.zero_le _,Iff.rfl⟩
 ·rintro i hok5 Q5 n5 e5 r5
  obtain ⟨hi1,hR⟩:=hok5
  refine yR [1,7,8,9,10] ⟨?_⟩;refine v_seq ?_;intros;refine v_condS _ rfl ?_ ?_
  ·intro hc0
   have hlt:i < l.length:=by omega
   obtain ⟨y,hy⟩:∃y,l[i]? =some y:=⟨l[i],List.getElem?_eq_getElem hlt⟩
   have hst:x∈l.drop i↔(x=y∨x∈l.drop (i+1)):=by rw [getElem_drop_cons hy,List.mem_cons]
   refine zn [1,7,8,9] ⟨?_⟩;refine v_seq ?_;intros;refine v_block ?_;intros
   have F:=Fc.mk (gdm hy)
   refine yR [1,6,7,8,9] ⟨?_⟩;refine yR [1,7,8,9,15] ⟨?_⟩;refine v_condS _ rfl ?_ ?_
   ·intro hc1
    refine yR [4] ⟨?_⟩;refine zr ⟨?_⟩
    exact ret_pure rfl (by rw [decide_eq_true (hR.1 (hst.2 (.inl hc1.symm)))]) (.inl rfl)
   ·intro hc1
    refine zn [1,7,8,9] ⟨?_⟩;refine yV ⟨?_⟩;refine n5 _ (i+1) ?_ ?_ ?_
    ·refine weak_of [1,7,8,9] ?_
     simp only [keep_mk,keepE_nil,keepE_cons,look_cons,look_nil,Nat.reduceEqDiff,reduceIte]
     rfl
    ·exact ⟨by omega,hR.symm.trans (hst.trans ⟨fun h=>h.elim (fun q=>absurd q.symm hc1) id,.inr⟩) |>.symm⟩
    ·show _ < _;omega
  ·intro hc0
   refine zn [] ⟨?_⟩;refine yR [4] ⟨?_⟩;refine zr ⟨?_⟩
   exact ret_pure rfl (by rw [decide_eq_false (fun h=>by have:=hR.2 h;rw [List.drop_of_length_le (by omega)] at this;cases this)]) (.inl rfl)
def szLst {α:Type} (f:Int→α→Int):Int→List α→Int
  | n,[]=>n
  | n,x::l=>if f n x < 0 then -1 else szLst f (f n x) l
theorem szLst_le {α:Type} {f:Int→α→Int} {g:α→Int} (hf:∀n x,0≤n→0≤f n x→g x≤n∧f n x≤n):∀{ll:List α} {n:Int},0≤n→0≤szLst f n ll→∀x∈ll,g x≤n
  | [],_,_,_,x,hx=>by cases hx
  | y ::ll,n,hn,h,x,hx=>by
    rw [szLst] at h
    split at h
    · omega
    · rename_i hs
      have hy:=hf n y hn (by omega)
      rcases List.mem_cons.1 hx with rfl | h3
      · exact hy.1
      · have:=szLst_le hf (by omega) h x h3;omega
def okAt (s:ByteArray) (i:Nat):Bool:=(decide (97≤byteAt s i) && decide (byteAt s i≤122)) || ((decide (48≤byteAt s i) && decide (byteAt s i≤57)) && !decide (i=0))
def nameB (s:ByteArray):Bool:=(List.range s.size).all (okAt s) && (decide (1≤(s.size:Int)) && decide ((s.size:Int)≤6))
theorem name_bad {s:ByteArray} {i:Nat} (hi:i < s.size) (h:okAt s i=false):nameB s=false:=by
  have:(List.range s.size).all (okAt s)=false:=by
    rw [List.all_eq_false]
    exact ⟨i,List.mem_range.2 hi,by rw [h];simp⟩
  rw [nameB,this];rfl
theorem name_good {s:ByteArray} {i:Nat} (hi:s.size≤i) (h:∀j,j < i→okAt s j=true):nameB s=(decide (1≤(s.size:Int)) && decide ((s.size:Int)≤6)):=by
  have:(List.range s.size).all (okAt s)=true:=by
    rw [List.all_eq_true]
    intro j hj
    exact h j (Nat.lt_of_lt_of_le (List.mem_range.1 hj) hi)
  rw [nameB,this];rfl
theorem ok_step {s:ByteArray} {i:Nat} (h:∀j,j < i→okAt s j=true) (hi:okAt s i=true):∀j,j < i+1→okAt s j=true:=by
  intro j hj
  rcases Nat.lt_or_ge j i with q | q
  · exact h j q
  · have:j=i:=by omega
    subst this;exact hi
theorem apName_con (s:ByteArray) (hs:s.size≤9223372036854775807):Con Tryz.prog 106 [.str s] [] (.bool (nameB s)) []:=by
 refine v_con [.tmp 2] [] Tryz.func106 rfl rfl rfl (by simp [Tryz.ntmps106]) ?_
 intro Q0 n0 r0
 simp only [Tryz.ntmps106,envFrom,Nat.reduceAdd]
 have T:=Tys.mk (ai Ty.t3 (ai Ty.t4 (ai Ty.t5 Ty.t9)))
 have F:=Fc.mk True.intro
 refine yR [0] ⟨?_⟩;refine v_seq ?_;intros;refine yR [0,3] ⟨?_⟩;refine v_block ?_;intros;refine v_loop (fun i=>⟨[(0,.str s),(3,.int .i64 (Nat.cast i))],[],false,45,0⟩) (fun i=>i≤s.size∧∀j,j < i→okAt s j=true) (fun i=>s.size - i) 0 ?_ ?_ ?_
 ·refine weak_of [0,3] ?_
  simp only [keep_mk,keepE_nil,keepE_cons,look_cons,look_nil,Nat.reduceEqDiff,reduceIte]
  rfl
 ·exact ⟨Nat.zero_le _,fun j h=>absurd h (Nat.not_lt_zero _)⟩
 ·rintro i hok5 Q5 n5 e5 r5
  obtain ⟨hi1,hR⟩:=hok5
  refine v_seq ?_;intros;refine yR [0,3,9] ⟨?_⟩;refine v_condS _ rfl ?_ ?_
  ·intro hc0
   have hlt:i < s.size:=by omega
   refine zn [0,3] ⟨?_⟩;refine v_seq ?_;intros;refine v_block ?_;intros;refine yR [0,3,4] ⟨?_⟩;refine yR [0,3,4,5] ⟨?_⟩;refine yR [0,3,41] ⟨?_⟩;refine v_condS _ rfl ?_ ?_
   ·intro hc1
    have hbad:okAt s i=false:=by simp only [okAt,Bool.or_eq_false_iff,Bool.and_eq_false_imp,decide_eq_true_eq,decide_eq_false_iff_not,Bool.not_eq_false',Bool.and_eq_true];omega
    refine yR [2] ⟨?_⟩;refine zr ⟨?_⟩
    exact ret_pure rfl (by rw [name_bad hlt hbad]) (.inl rfl)
   ·intro hc1
    have hgood:okAt s i=true:=by simp only [okAt,Bool.or_eq_true,Bool.and_eq_true,decide_eq_true_eq,Bool.not_eq_true',decide_eq_false_iff_not];omega
    refine zn [0,3] ⟨?_⟩;refine yV ⟨?_⟩;refine n5 _ (i+1) ?_ ?_ ?_
    ·refine weak_of [0,3] ?_
     simp only [keep_mk,keepE_nil,keepE_cons,look_cons,look_nil,Nat.reduceEqDiff,reduceIte]
     rfl
    ·exact ⟨by omega,ok_step hR hgood⟩
    ·show _ < _;omega
  ·intro hc0
   refine zn [0] ⟨?_⟩;refine yRc [2] (l1In_con _ _ _) ⟨?_⟩;refine zr ⟨?_⟩
   exact ret_pure rfl (by rw [name_good (by omega) hR]) (.inl rfl)
theorem isName_con (s:ByteArray) (hs:s.size≤9223372036854775807):Con Tryz.prog 102 [.str s] [] (.bool (nameB s)) []:=by
 refine v_con [.tmp 2] [] Tryz.func102 rfl rfl rfl (by simp [Tryz.ntmps102]) ?_
 intro Q0 n0 r0
 simp only [Tryz.ntmps102,envFrom,Nat.reduceAdd]
 have T:=Tys.mk (ai Ty.t3 (ai Ty.t4 (ai Ty.t5 Ty.t9)))
 have F:=Fc.mk True.intro
 refine yR [0] ⟨?_⟩;refine v_seq ?_;intros;refine yR [0,7,8] ⟨?_⟩;refine v_block ?_;intros;refine v_loop (fun i=>⟨[(0,.str s),(7,.int .i64 s.size),(8,.int .i64 (Nat.cast i))],[],false,45,0⟩) (fun i=>i≤s.size∧∀j,j < i→okAt s j=true) (fun i=>s.size - i) 0 ?_ ?_ ?_
 ·refine weak_of [0,7,8] ?_
  simp only [keep_mk,keepE_nil,keepE_cons,look_cons,look_nil,Nat.reduceEqDiff,reduceIte]
  rfl
 ·exact ⟨Nat.zero_le _,fun j h=>absurd h (Nat.not_lt_zero _)⟩
 ·rintro i hok5 Q5 n5 e5 r5
  obtain ⟨hi1,hR⟩:=hok5
  refine yR [0,7,8,9] ⟨?_⟩;refine v_seq ?_;intros;refine v_condS _ rfl ?_ ?_
  ·intro hc0
   have hlt:i < s.size:=by omega
   refine zn [0,7,8] ⟨?_⟩;refine v_seq ?_;intros;refine v_block ?_;intros;refine yR [0,3,7,8] ⟨?_⟩;refine v_seq ?_;intro Q12 n12 e12 r12;refine v_draw (by kernel_rfl) ?_;intro K13 q13 k13
   show aAny _ _ _ _ 22 (Array.replicate 22 false) _
   refine zdMove q13 true 0 11 ?_;refine zdMove q13 true 1 12 ?_;refine zdIndex q13 true 2 13 ?_;refine zdBinOp q13 true 3 14 ?_;refine zdMove q13 true 4 15 ?_;refine zdgMove q13 true 5 16 ?_;refine zdgMove q13 true 6 17 ?_;refine zdgIndex q13 true 7 18 ?_;refine zdgBinOp q13 true 8 19 ?_;refine zdPick q13 true 9 20 ?_;refine zdMove q13 true 10 21 ?_;refine zdMove q13 true 11 22 ?_;refine zdIndex q13 true 12 23 ?_;refine zdBinOp q13 true 13 24 ?_;refine zdMove q13 true 14 25 ?_;refine zdgMove q13 true 15 26 ?_;refine zdgMove q13 true 16 27 ?_;refine zdgIndex q13 true 17 28 ?_;refine zdgBinOp q13 true 18 29 ?_;refine zdPick q13 true 19 30 ?_;refine zoAssign 20 ⟨?_⟩;refine zoAssign 21 ⟨?_⟩;refine aAny_done (by kernel_rfl) ?_;refine k13 _ ?_;refine n12 _ _ (weak_keep [0,3,4,5,7,8] _) ?_;refine zk ⟨?_⟩;refine yR [0,7,8,40] ⟨?_⟩;refine v_condS _ rfl ?_ ?_
   ·intro hc1
    have hbad:okAt s i=false:=by simp only [okAt,Bool.or_eq_false_iff,Bool.and_eq_false_imp,decide_eq_true_eq,decide_eq_false_iff_not,Bool.not_eq_false',Bool.and_eq_true];omega
    refine yR [2] ⟨?_⟩;refine zr ⟨?_⟩
    exact ret_pure rfl (by rw [name_bad hlt hbad]) (.inl rfl)
   ·intro hc1
    have hgood:okAt s i=true:=by simp only [okAt,Bool.or_eq_true,Bool.and_eq_true,decide_eq_true_eq,Bool.not_eq_true',decide_eq_false_iff_not];omega
    refine zn [0,7,8] ⟨?_⟩;refine yV ⟨?_⟩;refine n5 _ (i+1) ?_ ?_ ?_
    ·refine weak_of [0,7,8] ?_
     simp only [keep_mk,keepE_nil,keepE_cons,look_cons,look_nil,Nat.reduceEqDiff,reduceIte]
     rfl
    ·exact ⟨by omega,ok_step hR hgood⟩
    ·show _ < _;omega
  ·intro hc0
   refine zn [0] ⟨?_⟩;refine yRc [2] (inside_con _ _ _) ⟨?_⟩;refine zr ⟨?_⟩
   exact ret_pure rfl (by rw [name_good (by omega) hR]) (.inl rfl)
theorem isNaN_int_con (a:Int):Con Tryz.prog 217 [V.int .i64 a] [] (.bool false) []:=by
 refine v_con [.tmp 2] [] Tryz.func217 rfl rfl rfl (by simp [Tryz.ntmps217]) ?_
 intro Q0 n0 r0
 simp only [Tryz.ntmps217,envFrom,Nat.reduceAdd]
 have T:=Tys.mk Ty.t3
 have F:=Fc.mk True.intro
 refine yR [0] ⟨?_⟩;refine yR [2] ⟨?_⟩;refine zr ⟨?_⟩
 exact ret_pure rfl (by first | rfl | simp) (.inl rfl)
def cmpI (a b:Int):Int:=if a < b then -1 else if b < a then 1 else 0
def orL:List Int→Int
  | []=>0
  | x::l=>if x≠0 then x else orL l
theorem or_step {l:List Int} {i:Nat} {x:Int} (h:l[i]? =some x):orL (l.drop i)=if x≠0 then x else orL (l.drop (i+1)):=by
  rw [getElem_drop_cons h,orL]
theorem or_end {l:List Int} {i:Nat} (h:l.length≤i):orL (l.drop i)=0:=by
  rw [List.drop_of_length_le h,orL]
theorem cmpInt_con (a b:Int):Con Tryz.prog 190 [.int .i64 a,.int .i64 b] [] (.int .i64 (cmpI a b)) []:=by
 refine v_con [.tmp 4] [] Tryz.func190 rfl rfl rfl (by simp [Tryz.ntmps190]) ?_
 intro Q0 n0 r0
 simp only [Tryz.ntmps190,envFrom,Nat.reduceAdd]
 have T:=Tys.mk (ai Ty.t3 Ty.t4)
 have F:=Fc.mk True.intro
 refine yR [0,1] ⟨?_⟩;refine yRc [0,1,5] (isNaN_int_con _) ⟨?_⟩;refine yRc [0,1,5,6] (isNaN_int_con _) ⟨?_⟩;refine v_seq ?_;intros;refine yR [0,1,6,11] ⟨?_⟩;refine v_cond _ rfl ?_ ?_
 ·intro hc0
  exfalso;simp at hc0
 ·intro hc0
  try simp only [zC,reduceCtorEq] at hc0
  refine zn [0,1,6] ⟨?_⟩;refine v_seq ?_;intros;refine yR [0,1,13] ⟨?_⟩;refine v_cond _ rfl ?_ ?_
  ·intro hc1
   exfalso;simp at hc1
  ·intro hc1
   try simp only [zC,reduceCtorEq] at hc1
   refine zn [0,1] ⟨?_⟩;refine v_seq ?_;intros;refine yR [0,1,16] ⟨?_⟩;refine v_condS _ rfl ?_ ?_
   ·intro hc2
    refine yR [4] ⟨?_⟩;refine zr ⟨?_⟩
    exact ret_pure rfl (by rw [cmpI,if_pos hc2]) (.inl rfl)
   ·intro hc2
    refine zn [0,1] ⟨?_⟩;refine v_seq ?_;intros;refine yR [19] ⟨?_⟩;refine v_condS _ rfl ?_ ?_
    ·intro hc3
     refine yR [4] ⟨?_⟩;refine zr ⟨?_⟩
     exact ret_pure rfl (by rw [cmpI,if_neg (by omega),if_pos hc3]) (.inl rfl)
    ·intro hc3
     refine zn [] ⟨?_⟩;refine yR [4] ⟨?_⟩;refine zr ⟨?_⟩
     exact ret_pure rfl (by rw [cmpI,if_neg (by omega),if_neg (by omega)]) (.inl rfl)
theorem cmpOr_con (l:List Int) (hl:l.length≤1048576):Con Tryz.prog 189 [.sl (l.map (V.int .i64))] [] (.int .i64 (orL l)) []:=by
 refine v_con [.tmp 2] [] Tryz.func189 rfl rfl rfl (by simp [Tryz.ntmps189]) ?_
 intro Q0 n0 r0
 simp only [Tryz.ntmps189,envFrom,Nat.reduceAdd]
 have T:=Tys.mk (ai Ty.t3 Ty.t49)
 have F:=Fc.mk True.intro
 refine yR [0] ⟨?_⟩;refine yR [0,3] ⟨?_⟩;refine v_seq ?_;intros;refine yR [3,6,7,8] ⟨?_⟩;refine v_block ?_;intros;refine v_loop (fun i=>⟨[(3,.int .i64 0),(6,.sl (l.map (V.int .i64))),(7,.int .i64 l.length),(8,.int .i64 (Nat.cast i))],[],false,18,0⟩) (fun i=>i≤l.length∧orL (l.drop i)=orL l) (fun i=>l.length - i) 0 ?_ ?_ ?_
 ·refine weak_of [3,6,7,8] ?_
  simp only [keep_mk,keepE_nil,keepE_cons,look_cons,look_nil,Nat.reduceEqDiff,reduceIte]
  rfl
 ·exact ⟨Nat.zero_le _,rfl⟩
 ·rintro i hok6 Q6 n6 e6 r6
  obtain ⟨hi1,hR⟩:=hok6
  refine yR [3,6,7,8,9] ⟨?_⟩;refine v_seq ?_;intros;refine v_condS _ rfl ?_ ?_
  ·intro hc0
   have hlt:i < l.length:=by omega
   obtain ⟨y,hy⟩:∃y,l[i]? =some y:=⟨l[i],List.getElem?_eq_getElem hlt⟩
   have hst:=or_step hy
   refine zn [3,6,7,8] ⟨?_⟩;refine v_seq ?_;intros;refine v_block ?_;intros
   have F:=Fc.mk (gdm hy)
   refine yR [3,5,6,7,8] ⟨?_⟩;refine yR [3,5,6,7,8,14] ⟨?_⟩;refine v_condS _ rfl ?_ ?_
   ·intro hc1
    refine yR [2] ⟨?_⟩;refine zr ⟨?_⟩
    exact ret_pure rfl (by rw [←hR,hst,if_pos hc1]) (.inl rfl)
   ·intro hc1
    refine zn [3,6,7,8] ⟨?_⟩;refine yV ⟨?_⟩;refine n6 _ (i+1) ?_ ?_ ?_
    ·refine weak_of [3,6,7,8] ?_
     simp only [keep_mk,keepE_nil,keepE_cons,look_cons,look_nil,Nat.reduceEqDiff,reduceIte]
     rfl
    ·exact ⟨by omega,by rw [←hR,hst,if_neg (by simp [hc1])]⟩
    ·show _ < _;omega
  ·intro hc0
   refine zn [3] ⟨?_⟩;refine yR [2] ⟨?_⟩;refine zr ⟨?_⟩
   exact ret_pure rfl (by rw [←hR,or_end (by omega)]) (.inl rfl)
def chainFrom {α:Type} (ok:α→Bool) (bf:α→α→Bool):Option α→List α→Bool
  | _,[]=>true
  | none,x::l=>ok x && chainFrom ok bf (some x) l
  | some p,x::l=>ok x && bf p x && chainFrom ok bf (some x) l
def chainAt {α:Type} (ok:α→Bool) (bf:α→α→Bool) (l:List α) (i:Nat):Bool:=chainFrom ok bf (if i=0 then none else l[i - 1]?) (l.drop i)
theorem chain_zero {α:Type} {ok:α→Bool} {bf:α→α→Bool} {l:List α} {x:α} (h:l[0]? =some x):chainAt ok bf l 0=(ok x && chainAt ok bf l 1):=by
  simp only [chainAt,getElem_drop_cons h,if_true,chainFrom]
  simp [h]
theorem chain_succ {α:Type} {ok:α→Bool} {bf:α→α→Bool} {l:List α} {x y:α} {i:Nat} (h0:0 < i) (hy:l[i - 1]? =some y) (h:l[i]? =some x):chainAt ok bf l i=(ok x && bf y x && chainAt ok bf l (i+1)):=by
  simp only [chainAt,getElem_drop_cons h,hy,show ¬i=0 by omega,if_false,chainFrom]
  simp [h]
theorem chain_end {α:Type} {ok:α→Bool} {bf:α→α→Bool} {l:List α} {i:Nat} (h:l.length≤i):chainAt ok bf l i=true:=by
  simp only [chainAt,List.drop_of_length_le h]
  split<;>rfl
theorem chainFrom_ok {α:Type} {ok:α→Bool} {bf:α→α→Bool}:∀{l:List α} {p:Option α},chainFrom ok bf p l=true→∀x∈l,ok x=true
  | [],_,_,x,hx=>by cases hx
  | y ::l,p,h,x,hx=>by
    have h2:ok y=true∧chainFrom ok bf (some y) l=true:=by
      cases p<;>simp [chainFrom] at h<;>simp [h]
    rcases List.mem_cons.1 hx with rfl | h3
    · exact h2.1
    · exact chainFrom_ok h2.2 x h3
theorem chain_ok {α:Type} {ok:α→Bool} {bf:α→α→Bool} {l:List α} (h:chainAt ok bf l 0=true):∀x∈l,ok x=true:=chainFrom_ok h
theorem strLt_irrefl (a:ByteArray):strLt a a=false:=by
  unfold strLt
  generalize a.toList=l
  induction l with
  | nil=>rfl
  | cons x l ih=>simp [Op.bytesLess,ih]
end Go.Proofs.YtaefoaghpehbpaaGreatDoor
