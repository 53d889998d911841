/- What functions compute. No condition. -/
import Derived.Test.YtmhaafinhpopmaaGreatUz
import Derived.Test.YtmhaafinhpopmaaGreatUty
set_option linter.unusedSimpArgs false
set_option linter.unusedVariables false
set_option linter.defProp false
namespace Go.Proofs.YtmhaafinhpopmaaGreat
open Go Go.Vm
set_option maxHeartbeats 8000000
theorem inside_con (n lo hi:Int):Con Tryz.prog 61 [.int .i64 n,.int .i64 lo,.int .i64 hi] [] (.bool (decide (lo≤n) && decide (n≤hi))) []:=by
 refine v_con [.tmp 6] [] Tryz.func61 rfl rfl rfl (by simp [Tryz.ntmps61]) ?_;intro Q0 n0 r0;simp only [Tryz.ntmps61,envFrom,Nat.reduceAdd];have T:=Tys.mk Ty.t3;have F:=Fc.mk True.intro;refine yR [0,1,2] ⟨?_⟩;refine yR [6] ⟨?_⟩;refine zr ⟨?_⟩;exact ret_pure rfl (by first | rfl | simp) (.inl rfl)
theorem l1In_con (n lo hi:Int):Con Tryz.prog 70 [.int .i64 n,.int .i64 lo,.int .i64 hi] [] (.bool (decide (lo≤n) && decide (n≤hi))) []:=by
 refine v_con [.tmp 6] [] Tryz.func70 rfl rfl rfl (by simp [Tryz.ntmps70]) ?_;intro Q0 n0 r0;simp only [Tryz.ntmps70,envFrom,Nat.reduceAdd];have T:=Tys.mk Ty.t3;have F:=Fc.mk True.intro;refine yR [0,1,2] ⟨?_⟩;refine yR [6] ⟨?_⟩;refine zr ⟨?_⟩;exact ret_pure rfl (by first | rfl | simp) (.inl rfl)
theorem getElem_drop_cons {α:Type} {l:List α} {i:Nat} {x:α} (h:l[i]? =some x):l.drop i=x::l.drop (i+1):=by
  obtain ⟨hi,rfl⟩:=qlc.1 h;exact List.drop_eq_getElem_cons hi
theorem eq_drop {α:Type} [DecidableEq α] {a b:List α} {i:Nat} (h:a.length=b.length) {x y:α} (hx:a[i]? =some x) (hy:b[i]? =some y):(a.drop i=b.drop i)↔(x=y∧a.drop (i+1)=b.drop (i+1)):=by
  rw [getElem_drop_cons hx,getElem_drop_cons hy,List.cons.injEq]
theorem all_drop {α:Type} {f:α→Bool} {l:List α} {i:Nat} {x:α} (h:l[i]? =some x):(l.drop i).all f=(f x && (l.drop (i+1)).all f):=by
  rw [getElem_drop_cons h,List.all_cons]
theorem foldl_drop {α β:Type} {f:β→α→β} {l:List α} {i:Nat} {x:α} (h:l[i]? =some x) (b:β):(l.drop i).foldl f b=(l.drop (i+1)).foldl f (f b x):=by
  rw [getElem_drop_cons h,List.foldl_cons]
theorem foldl_end {α β:Type} {f:β→α→β} {l:List α} {i:Nat} (h:l.length≤i) (b:β):(l.drop i).foldl f b=b:=by
  rw [qlt h];rfl
theorem set_map {α:Type} {f:α→V} {l:List α} {i:Nat} {x:α}:(l.map f).set i (f x)=(l.set i x).map f:=(List.map_set).symm
def inR (n lo hi:Int):Bool:=decide (lo≤n) && decide (n≤hi)
def mostL (l:List Int) (a:Int):Int:=l.foldl (fun m x=>if x > m then x else m) a
theorem most_step {l:List Int} {i:Nat} {x:Int} (h:l[i]? =some x) (m:Int):mostL (l.drop i) m=mostL (l.drop (i+1)) (if x > m then x else m):=foldl_drop h m
theorem most_end {l:List Int} {i:Nat} (h:l.length≤i) (m:Int):mostL (l.drop i) m=m:=foldl_end h m
theorem l1Least_con (a b:Int):Con Tryz.prog 53 [.int .i64 a,.int .i64 b] [] (.int .i64 (if b < a then b else a)) []:=by
 refine v_con [.tmp 4] [] Tryz.func53 rfl rfl rfl (by simp [Tryz.ntmps53]) ?_;intro Q0 n0 r0;simp only [Tryz.ntmps53,envFrom,Nat.reduceAdd];have T:=Tys.mk Ty.t3;have F:=Fc.mk True.intro;refine yR [0,1] ⟨?_⟩;refine v_seq ?_;intros;refine yR [0,1,7] ⟨?_⟩;refine v_condS _ rfl ?_ ?_
 ·intro hc0;refine yR [4] ⟨?_⟩;refine zr ⟨?_⟩;exact ret_pure rfl (by congr 1;split<;>omega) (.inl rfl)
 ·intro hc0;refine zn [1] ⟨?_⟩;refine yR [4] ⟨?_⟩;refine zr ⟨?_⟩;exact ret_pure rfl (by congr 1;split<;>omega) (.inl rfl)
theorem l1Most_con (a b:Int):Con Tryz.prog 42 [.int .i64 a,.int .i64 b] [] (.int .i64 (if b > a then b else a)) []:=by
 refine v_con [.tmp 4] [] Tryz.func42 rfl rfl rfl (by simp [Tryz.ntmps42]) ?_;intro Q0 n0 r0;simp only [Tryz.ntmps42,envFrom,Nat.reduceAdd];have T:=Tys.mk Ty.t3;have F:=Fc.mk True.intro;refine yR [0,1] ⟨?_⟩;refine v_seq ?_;intros;refine yR [0,1,7] ⟨?_⟩;refine v_condS _ rfl ?_ ?_
 ·intro hc0;refine yR [4] ⟨?_⟩;refine zr ⟨?_⟩;exact ret_pure rfl (by congr 1;split<;>omega) (.inl rfl)
 ·intro hc0;refine zn [1] ⟨?_⟩;refine yR [4] ⟨?_⟩;refine zr ⟨?_⟩;exact ret_pure rfl (by congr 1;split<;>omega) (.inl rfl)
theorem slMax_con (x:Int) (l:List Int) (hl:(x::l).length≤1048576):Con Tryz.prog 65 [.sl ((x::l).map (V.int .i64))] [] (.int .i64 (mostL l x)) []:=by
 obtain ⟨xl,hxl⟩:∃xl,xl=x::l:=⟨_,rfl⟩;have h0:xl[0]? =some x:=by rw [hxl];rfl
 have hres:mostL (xl.drop 1) x=mostL l x:=by rw [hxl];rfl
 rw [←hxl] at hl⊢;rw [←hres];have hpos:0 < xl.length:=by rw [hxl];simp
 refine v_con [.tmp 2] [] Tryz.func65 rfl rfl rfl (by simp [Tryz.ntmps65]) ?_;intro Q0 n0 r0;simp only [Tryz.ntmps65,envFrom,Nat.reduceAdd];have T:=Tys.mk (ai Ty.t3 Ty.t28);have F:=Fc.mk True.intro;have F:=Fc.mk (gdm h0);refine yR [0] ⟨?_⟩;refine v_seq ?_;intros;refine yR [0,7] ⟨?_⟩;refine v_cond _ rfl ?_ ?_
 ·intro hc0;exfalso;have hq:=of_decide_eq_true hc0;omega
 ·intro hc0;try simp only [zC,reduceCtorEq] at hc0
  refine zn [0] ⟨?_⟩;refine yR [0,3] ⟨?_⟩;refine v_seq ?_;intros;refine yR [0,3,4] ⟨?_⟩;refine v_block ?_;intros;refine v_loop (fun p=>⟨[(0,.sl (xl.map (V.int .i64))),(3,.int .i64 p.2),(4,.int .i64 (Nat.cast p.1))],[],false,25,0⟩) (fun p=>1≤p.1∧p.1≤xl.length∧mostL (xl.drop p.1) p.2=mostL (xl.drop 1) x) (fun p=>xl.length - p.1) ((1,x):Nat×Int) ?_ ?_ ?_
  ·refine weak_of [0,3,4] ?_;simp only [keep_mk,keepE_nil,keepE_cons,look_cons,look_nil,Nat.reduceEqDiff,reduceIte];rfl
  ·exact ⟨qlu _,hpos,rfl⟩
  ·rintro p hok9 Q9 n9 e9 r9;obtain ⟨hi0,hi1,hR⟩:=hok9;refine v_seq ?_;intros;refine yR [0,3,4,15] ⟨?_⟩;refine v_condS _ rfl ?_ ?_
   ·intro hc1;have hlt:p.1 < xl.length:=by omega
    obtain ⟨y,hy⟩:∃y,xl[p.1]? =some y:=⟨xl[p.1],qla hlt⟩;refine zn [0,3,4] ⟨?_⟩;refine v_seq ?_;intros;refine v_block ?_;intros;have F:=Fc.mk (ai (gdm h0) (gdm hy));refine yQ [0,3,4] ⟨?_⟩;refine yV ⟨?_⟩;refine n9 _ (p.1+1,if y > p.2 then y else p.2) ?_ ?_ ?_
    ·refine weak_of [0,3,4] ?_;simp only [keep_mk,keepE_nil,keepE_cons,look_cons,look_nil,Nat.reduceEqDiff,reduceIte];rfl
    ·exact ⟨by show 1≤p.1+1;omega,by show p.1+1≤_;omega,by show mostL (xl.drop (p.1+1)) _=_;rw [←hR,most_step hy]⟩
    ·show _ < _;show xl.length - (p.1+1) < _;omega
   ·intro hc1;refine zn [3] ⟨?_⟩;refine yR [2] ⟨?_⟩;refine zr ⟨?_⟩;exact ret_pure rfl (by rw [←hR,most_end (by omega)]) (.inl rfl)
theorem l1Has_con (l:List Int) (x:Int) (hl:l.length≤1048576):Con Tryz.prog 76 [.sl (l.map (V.int .i64)),.int .i64 x] [] (.bool (decide (x∈l))) []:=by
 refine v_con [.tmp 4] [] Tryz.func76 rfl rfl rfl (by simp [Tryz.ntmps76]) ?_;intro Q0 n0 r0;simp only [Tryz.ntmps76,envFrom,Nat.reduceAdd];have T:=Tys.mk (ai Ty.t3 Ty.t28);have F:=Fc.mk True.intro;refine yR [0,1] ⟨?_⟩;refine v_seq ?_;intros;refine yR [1,7,8,9] ⟨?_⟩;refine v_block ?_;intros;refine v_loop (fun i=>⟨[(1,.int .i64 x),(7,.sl (l.map (V.int .i64))),(8,.int .i64 l.length),(9,.int .i64 (Nat.cast i))],[],false,17,0⟩) (fun i=>i≤l.length∧(x∈l.drop i↔x∈l)) (fun i=>l.length - i) 0 ?_ ?_ ?_
 ·refine weak_of [1,7,8,9] ?_;simp only [keep_mk,keepE_nil,keepE_cons,look_cons,look_nil,Nat.reduceEqDiff,reduceIte];rfl
 ·exact ⟨qlk _,Iff.rfl⟩
 ·rintro i hok5 Q5 n5 e5 r5;obtain ⟨hi1,hR⟩:=hok5;refine yR [1,7,8,9,10] ⟨?_⟩;refine v_seq ?_;intros;refine v_condS _ rfl ?_ ?_
  ·intro hc0;have hlt:i < l.length:=by omega
   obtain ⟨y,hy⟩:∃y,l[i]? =some y:=⟨l[i],qla hlt⟩;have hst:x∈l.drop i↔(x=y∨x∈l.drop (i+1)):=by rw [getElem_drop_cons hy,ql0]
   refine zn [1,7,8,9] ⟨?_⟩;refine v_seq ?_;intros;refine v_block ?_;intros;have F:=Fc.mk (gdm hy);refine yR [1,6,7,8,9] ⟨?_⟩;refine yR [1,7,8,9,15] ⟨?_⟩;refine v_condS _ rfl ?_ ?_
   ·intro hc1;refine yR [4] ⟨?_⟩;refine zr ⟨?_⟩;exact ret_pure rfl (by rw [decide_eq_true (hR.1 (hst.2 (.inl hc1.symm)))]) (.inl rfl)
   ·intro hc1;refine zn [1,7,8,9] ⟨?_⟩;refine yV ⟨?_⟩;refine n5 _ (i+1) ?_ ?_ ?_
    ·refine weak_of [1,7,8,9] ?_;simp only [keep_mk,keepE_nil,keepE_cons,look_cons,look_nil,Nat.reduceEqDiff,reduceIte];rfl
    ·exact ⟨by omega,hR.symm.trans (hst.trans ⟨fun h=>h.elim (fun q=>absurd q.symm hc1) id,.inr⟩) |>.symm⟩
    ·show _ < _;omega
  ·intro hc0;refine zn [] ⟨?_⟩;refine yR [4] ⟨?_⟩;refine zr ⟨?_⟩;exact ret_pure rfl (by rw [decide_eq_false (fun h=>by have:=hR.2 h;rw [qlt (by omega)] at this;cases this)]) (.inl rfl)
def okAt (s:ByteArray) (i:Nat):Bool:=(decide (97≤byteAt s i) && decide (byteAt s i≤122)) || ((decide (48≤byteAt s i) && decide (byteAt s i≤57)) && !decide (i=0))
def nameB (s:ByteArray):Bool:=(List.range s.size).all (okAt s) && (decide (1≤(s.size:Int)) && decide ((s.size:Int)≤6))
theorem name_bad {s:ByteArray} {i:Nat} (hi:i < s.size) (h:okAt s i=false):nameB s=false:=by
  have:(List.range s.size).all (okAt s)=false:=by
    rw [List.all_eq_false];exact ⟨i,qmi.2 hi,by rw [h];simp⟩
  rw [nameB,this];rfl
theorem name_good {s:ByteArray} {i:Nat} (hi:s.size≤i) (h:∀j,j < i→okAt s j=true):nameB s=(decide (1≤(s.size:Int)) && decide ((s.size:Int)≤6)):=by
  have:(List.range s.size).all (okAt s)=true:=by
    rw [qlh];intro j hj;exact h j (qmj (qmi.1 hj) hi)
  rw [nameB,this];rfl
theorem ok_step {s:ByteArray} {i:Nat} (h:∀j,j < i→okAt s j=true) (hi:okAt s i=true):∀j,j < i+1→okAt s j=true:=by
  intro j hj;rcases qly j i with q | q
  · exact h j q
  · have:j=i:=by omega
    subst this;exact hi
theorem apName_con (s:ByteArray) (hs:s.size≤9223372036854775807):Con Tryz.prog 104 [.str s] [] (.bool (nameB s)) []:=by
 refine v_con [.tmp 2] [] Tryz.func104 rfl rfl rfl (by simp [Tryz.ntmps104]) ?_;intro Q0 n0 r0;simp only [Tryz.ntmps104,envFrom,Nat.reduceAdd];have T:=Tys.mk (ai Ty.t3 (ai Ty.t4 (ai Ty.t5 Ty.t9)));have F:=Fc.mk True.intro;refine yR [0] ⟨?_⟩;refine v_seq ?_;intros;refine yR [0,3] ⟨?_⟩;refine v_block ?_;intros;refine v_loop (fun i=>⟨[(0,.str s),(3,.int .i64 (Nat.cast i))],[],false,45,0⟩) (fun i=>i≤s.size∧∀j,j < i→okAt s j=true) (fun i=>s.size - i) 0 ?_ ?_ ?_
 ·refine weak_of [0,3] ?_;simp only [keep_mk,keepE_nil,keepE_cons,look_cons,look_nil,Nat.reduceEqDiff,reduceIte];rfl
 ·exact ⟨qlk _,fun j h=>absurd h (Nat.not_lt_zero _)⟩
 ·rintro i hok5 Q5 n5 e5 r5;obtain ⟨hi1,hR⟩:=hok5;refine v_seq ?_;intros;refine yR [0,3,9] ⟨?_⟩;refine v_condS _ rfl ?_ ?_
  ·intro hc0;have hlt:i < s.size:=by omega
   refine zn [0,3] ⟨?_⟩;refine v_seq ?_;intros;refine v_block ?_;intros;refine yR [0,3,4] ⟨?_⟩;refine yR [0,3,4,5] ⟨?_⟩;refine yR [0,3,41] ⟨?_⟩;refine v_condS _ rfl ?_ ?_
   ·intro hc1;have hbad:okAt s i=false:=by simp only [okAt,Bool.or_eq_false_iff,Bool.and_eq_false_imp,decide_eq_true_eq,decide_eq_false_iff_not,Bool.not_eq_false',Bool.and_eq_true];omega
    refine yR [2] ⟨?_⟩;refine zr ⟨?_⟩;exact ret_pure rfl (by rw [name_bad hlt hbad]) (.inl rfl)
   ·intro hc1;have hgood:okAt s i=true:=by simp only [okAt,Bool.or_eq_true,Bool.and_eq_true,decide_eq_true_eq,Bool.not_eq_true',decide_eq_false_iff_not];omega
    refine zn [0,3] ⟨?_⟩;refine yV ⟨?_⟩;refine n5 _ (i+1) ?_ ?_ ?_
    ·refine weak_of [0,3] ?_;simp only [keep_mk,keepE_nil,keepE_cons,look_cons,look_nil,Nat.reduceEqDiff,reduceIte];rfl
    ·exact ⟨by omega,ok_step hR hgood⟩
    ·show _ < _;omega
  ·intro hc0;refine zn [0] ⟨?_⟩;refine yRc [2] (l1In_con _ _ _) ⟨?_⟩;refine zr ⟨?_⟩;exact ret_pure rfl (by rw [name_good (by omega) hR]) (.inl rfl)
theorem isName_con (s:ByteArray) (hs:s.size≤9223372036854775807):Con Tryz.prog 97 [.str s] [] (.bool (nameB s)) []:=by
 refine v_con [.tmp 2] [] Tryz.func97 rfl rfl rfl (by simp [Tryz.ntmps97]) ?_;intro Q0 n0 r0;simp only [Tryz.ntmps97,envFrom,Nat.reduceAdd];have T:=Tys.mk (ai Ty.t3 (ai Ty.t4 (ai Ty.t5 Ty.t9)));have F:=Fc.mk True.intro;refine yR [0] ⟨?_⟩;refine v_seq ?_;intros;refine yR [0,7,8] ⟨?_⟩;refine v_block ?_;intros;refine v_loop (fun i=>⟨[(0,.str s),(7,.int .i64 s.size),(8,.int .i64 (Nat.cast i))],[],false,45,0⟩) (fun i=>i≤s.size∧∀j,j < i→okAt s j=true) (fun i=>s.size - i) 0 ?_ ?_ ?_
 ·refine weak_of [0,7,8] ?_;simp only [keep_mk,keepE_nil,keepE_cons,look_cons,look_nil,Nat.reduceEqDiff,reduceIte];rfl
 ·exact ⟨qlk _,fun j h=>absurd h (Nat.not_lt_zero _)⟩
 ·rintro i hok5 Q5 n5 e5 r5;obtain ⟨hi1,hR⟩:=hok5;refine yR [0,7,8,9] ⟨?_⟩;refine v_seq ?_;intros;refine v_condS _ rfl ?_ ?_
  ·intro hc0;have hlt:i < s.size:=by omega
   refine zn [0,7,8] ⟨?_⟩;refine v_seq ?_;intros;refine v_block ?_;intros;refine yR [0,3,7,8] ⟨?_⟩;refine v_seq ?_;intro Q12 n12 e12 r12;refine v_draw (by kernel_rfl) ?_;intro K13 q13 k13;show aAny _ _ _ _ 22 (Array.replicate 22 false) _;refine zdMove q13 true 0 11 ?_;refine zdMove q13 true 1 12 ?_;refine zdIndex q13 true 2 13 ?_;refine zdBinOp q13 true 3 14 ?_;refine zdMove q13 true 4 15 ?_;refine zdgMove q13 true 5 16 ?_;refine zdgMove q13 true 6 17 ?_;refine zdgIndex q13 true 7 18 ?_;refine zdgBinOp q13 true 8 19 ?_;refine zdPick q13 true 9 20 ?_;refine zdMove q13 true 10 21 ?_;refine zdMove q13 true 11 22 ?_;refine zdIndex q13 true 12 23 ?_;refine zdBinOp q13 true 13 24 ?_;refine zdMove q13 true 14 25 ?_;refine zdgMove q13 true 15 26 ?_;refine zdgMove q13 true 16 27 ?_;refine zdgIndex q13 true 17 28 ?_;refine zdgBinOp q13 true 18 29 ?_;refine zdPick q13 true 19 30 ?_;refine zoAssign 20 ⟨?_⟩;refine zoAssign 21 ⟨?_⟩;refine aAny_done (by kernel_rfl) ?_;refine k13 _ ?_;refine n12 _ _ (weak_keep [0,3,4,5,7,8] _) ?_;refine zk ⟨?_⟩;refine yR [0,7,8,40] ⟨?_⟩;refine v_condS _ rfl ?_ ?_
   ·intro hc1;have hbad:okAt s i=false:=by simp only [okAt,Bool.or_eq_false_iff,Bool.and_eq_false_imp,decide_eq_true_eq,decide_eq_false_iff_not,Bool.not_eq_false',Bool.and_eq_true];omega
    refine yR [2] ⟨?_⟩;refine zr ⟨?_⟩;exact ret_pure rfl (by rw [name_bad hlt hbad]) (.inl rfl)
   ·intro hc1;have hgood:okAt s i=true:=by simp only [okAt,Bool.or_eq_true,Bool.and_eq_true,decide_eq_true_eq,Bool.not_eq_true',decide_eq_false_iff_not];omega
    refine zn [0,7,8] ⟨?_⟩;refine yV ⟨?_⟩;refine n5 _ (i+1) ?_ ?_ ?_
    ·refine weak_of [0,7,8] ?_;simp only [keep_mk,keepE_nil,keepE_cons,look_cons,look_nil,Nat.reduceEqDiff,reduceIte];rfl
    ·exact ⟨by omega,ok_step hR hgood⟩
    ·show _ < _;omega
  ·intro hc0;refine zn [0] ⟨?_⟩;refine yRc [2] (inside_con _ _ _) ⟨?_⟩;refine zr ⟨?_⟩;exact ret_pure rfl (by rw [name_good (by omega) hR]) (.inl rfl)
theorem isNaN_int_con (a:Int):Con Tryz.prog 92 [V.int .i64 a] [] (.bool false) []:=by
 refine v_con [.tmp 2] [] Tryz.func92 rfl rfl rfl (by simp [Tryz.ntmps92]) ?_;intro Q0 n0 r0;simp only [Tryz.ntmps92,envFrom,Nat.reduceAdd];have T:=Tys.mk Ty.t3;have F:=Fc.mk True.intro;refine yR [0] ⟨?_⟩;refine yR [2] ⟨?_⟩;refine zr ⟨?_⟩;exact ret_pure rfl (by first | rfl | simp) (.inl rfl)
def cmpI (a b:Int):Int:=if a < b then -1 else if b < a then 1 else 0
def orL:List Int→Int
  | []=>0
  | x::l=>if x≠0 then x else orL l
theorem or_step {l:List Int} {i:Nat} {x:Int} (h:l[i]? =some x):orL (l.drop i)=if x≠0 then x else orL (l.drop (i+1)):=by
  rw [getElem_drop_cons h,orL]
theorem or_end {l:List Int} {i:Nat} (h:l.length≤i):orL (l.drop i)=0:=by
  rw [qlt h,orL]
theorem cmpInt_con (a b:Int):Con Tryz.prog 79 [.int .i64 a,.int .i64 b] [] (.int .i64 (cmpI a b)) []:=by
 refine v_con [.tmp 4] [] Tryz.func79 rfl rfl rfl (by simp [Tryz.ntmps79]) ?_;intro Q0 n0 r0;simp only [Tryz.ntmps79,envFrom,Nat.reduceAdd];have T:=Tys.mk (ai Ty.t3 Ty.t4);have F:=Fc.mk True.intro;refine yR [0,1] ⟨?_⟩;refine yRc [0,1,5] (isNaN_int_con _) ⟨?_⟩;refine yRc [0,1,5,6] (isNaN_int_con _) ⟨?_⟩;refine v_seq ?_;intros;refine yR [0,1,6,11] ⟨?_⟩;refine v_cond _ rfl ?_ ?_
 ·intro hc0;exfalso;simp at hc0
 ·intro hc0;try simp only [zC,reduceCtorEq] at hc0
  refine zn [0,1,6] ⟨?_⟩;refine v_seq ?_;intros;refine yR [0,1,13] ⟨?_⟩;refine v_cond _ rfl ?_ ?_
  ·intro hc1;exfalso;simp at hc1
  ·intro hc1;try simp only [zC,reduceCtorEq] at hc1
   refine zn [0,1] ⟨?_⟩;refine v_seq ?_;intros;refine yR [0,1,16] ⟨?_⟩;refine v_condS _ rfl ?_ ?_
   ·intro hc2;refine yR [4] ⟨?_⟩;refine zr ⟨?_⟩;exact ret_pure rfl (by rw [cmpI,if_pos hc2]) (.inl rfl)
   ·intro hc2;refine zn [0,1] ⟨?_⟩;refine v_seq ?_;intros;refine yR [19] ⟨?_⟩;refine v_condS _ rfl ?_ ?_
    ·intro hc3;refine yR [4] ⟨?_⟩;refine zr ⟨?_⟩;exact ret_pure rfl (by rw [cmpI,if_neg (by omega),if_pos hc3]) (.inl rfl)
    ·intro hc3;refine zn [] ⟨?_⟩;refine yR [4] ⟨?_⟩;refine zr ⟨?_⟩;exact ret_pure rfl (by rw [cmpI,if_neg (by omega),if_neg (by omega)]) (.inl rfl)
theorem cmpOr_con (l:List Int) (hl:l.length≤1048576):Con Tryz.prog 96 [.sl (l.map (V.int .i64))] [] (.int .i64 (orL l)) []:=by
 refine v_con [.tmp 2] [] Tryz.func96 rfl rfl rfl (by simp [Tryz.ntmps96]) ?_;intro Q0 n0 r0;simp only [Tryz.ntmps96,envFrom,Nat.reduceAdd];have T:=Tys.mk (ai Ty.t3 Ty.t28);have F:=Fc.mk True.intro;refine yR [0] ⟨?_⟩;refine yR [0,3] ⟨?_⟩;refine v_seq ?_;intros;refine yR [3,6,7,8] ⟨?_⟩;refine v_block ?_;intros;refine v_loop (fun i=>⟨[(3,.int .i64 0),(6,.sl (l.map (V.int .i64))),(7,.int .i64 l.length),(8,.int .i64 (Nat.cast i))],[],false,18,0⟩) (fun i=>i≤l.length∧orL (l.drop i)=orL l) (fun i=>l.length - i) 0 ?_ ?_ ?_
 ·refine weak_of [3,6,7,8] ?_;simp only [keep_mk,keepE_nil,keepE_cons,look_cons,look_nil,Nat.reduceEqDiff,reduceIte];rfl
 ·exact ⟨qlk _,rfl⟩
 ·rintro i hok6 Q6 n6 e6 r6;obtain ⟨hi1,hR⟩:=hok6;refine yR [3,6,7,8,9] ⟨?_⟩;refine v_seq ?_;intros;refine v_condS _ rfl ?_ ?_
  ·intro hc0;have hlt:i < l.length:=by omega
   obtain ⟨y,hy⟩:∃y,l[i]? =some y:=⟨l[i],qla hlt⟩;have hst:=or_step hy;refine zn [3,6,7,8] ⟨?_⟩;refine v_seq ?_;intros;refine v_block ?_;intros;have F:=Fc.mk (gdm hy);refine yR [3,5,6,7,8] ⟨?_⟩;refine yR [3,5,6,7,8,14] ⟨?_⟩;refine v_condS _ rfl ?_ ?_
   ·intro hc1;refine yR [2] ⟨?_⟩;refine zr ⟨?_⟩;exact ret_pure rfl (by rw [←hR,hst,if_pos hc1]) (.inl rfl)
   ·intro hc1;refine zn [3,6,7,8] ⟨?_⟩;refine yV ⟨?_⟩;refine n6 _ (i+1) ?_ ?_ ?_
    ·refine weak_of [3,6,7,8] ?_;simp only [keep_mk,keepE_nil,keepE_cons,look_cons,look_nil,Nat.reduceEqDiff,reduceIte];rfl
    ·exact ⟨by omega,by rw [←hR,hst,if_neg (by simp [hc1])]⟩
    ·show _ < _;omega
  ·intro hc0;refine zn [3] ⟨?_⟩;refine yR [2] ⟨?_⟩;refine zr ⟨?_⟩;exact ret_pure rfl (by rw [←hR,or_end (by omega)]) (.inl rfl)
def chainFrom {α:Type} (ok:α→Bool) (bf:α→α→Bool):Option α→List α→Bool
  | _,[]=>true
  | none,x::l=>ok x && chainFrom ok bf (some x) l
  | some p,x::l=>ok x && bf p x && chainFrom ok bf (some x) l
def chainAt {α:Type} (ok:α→Bool) (bf:α→α→Bool) (l:List α) (i:Nat):Bool:=chainFrom ok bf (if i=0 then none else l[i - 1]?) (l.drop i)
theorem chain_zero {α:Type} {ok:α→Bool} {bf:α→α→Bool} {l:List α} {x:α} (h:l[0]? =some x):chainAt ok bf l 0=(ok x && chainAt ok bf l 1):=by
  simp only [chainAt,getElem_drop_cons h,if_true,chainFrom];simp [h]
theorem chain_succ {α:Type} {ok:α→Bool} {bf:α→α→Bool} {l:List α} {x y:α} {i:Nat} (h0:0 < i) (hy:l[i - 1]? =some y) (h:l[i]? =some x):chainAt ok bf l i=(ok x && bf y x && chainAt ok bf l (i+1)):=by
  simp only [chainAt,getElem_drop_cons h,hy,show ¬i=0 by omega,if_false,chainFrom];simp [h]
theorem chain_end {α:Type} {ok:α→Bool} {bf:α→α→Bool} {l:List α} {i:Nat} (h:l.length≤i):chainAt ok bf l i=true:=by
  simp only [chainAt,List.drop_of_length_le h];split<;>rfl
theorem chainFrom_ok {α:Type} {ok:α→Bool} {bf:α→α→Bool}:∀{l:List α} {p:Option α},chainFrom ok bf p l=true→∀x∈l,ok x=true
  | [],_,_,x,hx=>by cases hx
  | y ::l,p,h,x,hx=>by
    have h2:ok y=true∧chainFrom ok bf (some y) l=true:=by
      cases p<;>simp [chainFrom] at h<;>simp [h]
    rcases ql0.1 hx with rfl | h3
    · exact h2.1
    · exact chainFrom_ok h2.2 x h3
theorem chain_ok {α:Type} {ok:α→Bool} {bf:α→α→Bool} {l:List α} (h:chainAt ok bf l 0=true):∀x∈l,ok x=true:=chainFrom_ok h
theorem strLt_irrefl (a:ByteArray):strLt a a=false:=by
  unfold strLt;generalize a.toList=l
  induction l with
  | nil=>rfl
  | cons x l ih=>simp [Op.bytesLess,ih]
theorem isLimit_con (n:Int):Con Tryz.prog 29 [.int .i64 n] [] (.bool (decide (0≤n) && decide (n≤36000))) []:=by
 refine v_con [.tmp 2] [] Tryz.func29 rfl rfl rfl (by simp [Tryz.ntmps29]) ?_;intro Q0 n0 r0;simp only [Tryz.ntmps29,envFrom,Nat.reduceAdd];have T:=Tys.mk (ai Ty.t3 Ty.t4);have F:=Fc.mk True.intro;refine yR [0] ⟨?_⟩;refine yRc [2] (inside_con _ _ _) ⟨?_⟩;refine zr ⟨?_⟩;exact ret_pure rfl (by first | rfl | simp) (.inl rfl)
theorem dsLimit_con (n:Int):Con Tryz.prog 33 [.int .i64 n] [] (.bool (decide (0≤n) && decide (n≤36000))) []:=by
 refine v_con [.tmp 2] [] Tryz.func33 rfl rfl rfl (by simp [Tryz.ntmps33]) ?_;intro Q0 n0 r0;simp only [Tryz.ntmps33,envFrom,Nat.reduceAdd];have T:=Tys.mk (ai Ty.t3 Ty.t4);have F:=Fc.mk True.intro;refine yR [0] ⟨?_⟩;refine yRc [2] (l1In_con _ _ _) ⟨?_⟩;refine zr ⟨?_⟩;exact ret_pure rfl (by first | rfl | simp) (.inl rfl)
end Go.Proofs.YtmhaafinhpopmaaGreat
