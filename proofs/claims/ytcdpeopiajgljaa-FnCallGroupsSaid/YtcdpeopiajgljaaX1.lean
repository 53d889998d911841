/- What functions compute. No condition. -/
import Derived.Test.YtcdpeopiajgljaaUz
import Derived.Test.YtcdpeopiajgljaaUty
import Derived.Test.YtcdpeopiajgljaaUmG
import Derived.Test.YtcdpeopiajgljaaShelf
set_option linter.unusedSimpArgs false
set_option linter.unusedVariables false
set_option linter.defProp false
namespace Go.Proofs.Ytcdpeopiajgljaa
open Go Go.Vm
set_option maxHeartbeats 8000000
theorem inside_con (n lo hi:Int):Con Try.prog 93 [.int .i64 n,.int .i64 lo,.int .i64 hi] [] (.bool (decide (lo≤n) && decide (n≤hi))) []:=by
 refine v_con [.tmp 6] [] Try.func93 rfl rfl rfl (by simp [Try.ntmps93]) ?_
 intro Q0 n0 r0
 simp only [Try.ntmps93,envFrom,Nat.reduceAdd]
 have T:=Tys.mk Ty.t3
 have F:=Fc.mk True.intro
 refine yR [0,1,2] ⟨?_⟩;refine yR [6] ⟨?_⟩;refine zr ⟨?_⟩
 exact ret_pure rfl (by first | rfl | simp) (.inl rfl)
theorem l1In_con (n lo hi:Int):Con Try.prog 84 [.int .i64 n,.int .i64 lo,.int .i64 hi] [] (.bool (decide (lo≤n) && decide (n≤hi))) []:=by
 refine v_con [.tmp 6] [] Try.func84 rfl rfl rfl (by simp [Try.ntmps84]) ?_
 intro Q0 n0 r0
 simp only [Try.ntmps84,envFrom,Nat.reduceAdd]
 have T:=Tys.mk Ty.t3
 have F:=Fc.mk True.intro
 refine yR [0,1,2] ⟨?_⟩;refine yR [6] ⟨?_⟩;refine zr ⟨?_⟩
 exact ret_pure rfl (by first | rfl | simp) (.inl rfl)
theorem getElem_drop_cons {α:Type} {l:List α} {i:Nat} {x:α} (h:l[i]? =some x):l.drop i=x::l.drop (i+1):=by
  obtain ⟨hi,rfl⟩:=List.getElem?_eq_some_iff.1 h
  exact List.drop_eq_getElem_cons hi
theorem set_map {α:Type} {f:α→V} {l:List α} {i:Nat} {x:α}:(l.map f).set i (f x)=(l.set i x).map f:=(List.map_set).symm
def inR (n lo hi:Int):Bool:=decide (lo≤n) && decide (n≤hi)
def risingFrom (lo hi:Int):Option Int→List Int→Bool
  | _,[]=>true
  | none,x::xs=>inR x lo hi && risingFrom lo hi (some x) xs
  | some p,x::xs=>inR x lo hi && decide (p < x) && risingFrom lo hi (some x) xs
def risingAt (lo hi:Int) (l:List Int) (i:Nat):Bool:=risingFrom lo hi (if i=0 then none else l[i - 1]?) (l.drop i)
theorem risingAt_zero {lo hi:Int} {l:List Int} {x:Int} (h:l[0]? =some x):risingAt lo hi l 0=(inR x lo hi && risingAt lo hi l 1):=by
  simp only [risingAt,getElem_drop_cons h,if_true,risingFrom]
  simp [h]
theorem risingAt_succ {lo hi:Int} {l:List Int} {x y:Int} {i:Nat} (h0:0 < i) (hy:l[i - 1]? =some y) (h:l[i]? =some x):risingAt lo hi l i=(inR x lo hi && decide (y < x) && risingAt lo hi l (i+1)):=by
  simp only [risingAt,getElem_drop_cons h,hy,show ¬i=0 by omega,if_false,risingFrom]
  simp [h]
theorem risingAt_end {lo hi:Int} {l:List Int} {i:Nat} (h:l.length≤i):risingAt lo hi l i=true:=by
  simp only [risingAt,List.drop_of_length_le h]
  split<;>rfl
theorem rising_in {lo hi:Int}:∀{l:List Int} {p:Option Int},risingFrom lo hi p l=true→∀x∈l,lo≤x∧x≤hi
  | [],_,_,x,hx=>by cases hx
  | y ::l,p,h,x,hx=>by
    have h2:inR y lo hi=true∧risingFrom lo hi (some y) l=true:=by
      cases p<;>simp [risingFrom] at h<;>simp [h]
    rcases List.mem_cons.1 hx with rfl | h3
    · simpa [inR] using h2.1
    · exact rising_in h2.2 x h3
theorem l1Rising_con (l:List Int) (lo hi:Int) (hl:l.length≤1048576):Con Try.prog 105 [.sl (l.map (V.int .i64)),.int .i64 lo,.int .i64 hi] [] (.bool (risingAt lo hi l 0)) []:=by
 refine v_con [.tmp 6] [] Try.func105 rfl rfl rfl (by simp [Try.ntmps105]) ?_
 intro Q0 n0 r0
 simp only [Try.ntmps105,envFrom,Nat.reduceAdd]
 have T:=Tys.mk (ai Ty.t3 (ai Ty.t4 Ty.t26))
 have F:=Fc.mk True.intro
 refine yR [0,1,2] ⟨?_⟩;refine v_seq ?_;intros;refine yR [0,1,2,9,10,11] ⟨?_⟩;refine v_block ?_;intros;refine v_loop (fun i=>⟨[(0,.sl (l.map (V.int .i64))),(1,.int .i64 lo),(2,.int .i64 hi),(9,.sl (l.map (V.int .i64))),(10,.int .i64 l.length),(11,.int .i64 (Nat.cast i))],[],false,35,0⟩) (fun i=>i≤l.length∧risingAt lo hi l i=risingAt lo hi l 0) (fun i=>l.length - i) 0 ?_ ?_ ?_
 ·refine weak_of [0,1,2,9,10,11] ?_
  simp only [keep_mk,keepE_nil,keepE_cons,look_cons,look_nil,Nat.reduceEqDiff,reduceIte]
  rfl
 ·exact ⟨Nat.zero_le _,rfl⟩
 ·rintro i hok5 Q5 n5 e5 r5
  obtain ⟨hi1,hR⟩:=hok5
  refine yR [0,1,2,9,10,11,12] ⟨?_⟩;refine v_seq ?_;intros;refine v_condS _ rfl ?_ ?_
  ·intro hc0
   have hlt:i < l.length:=by omega
   obtain ⟨x,hx⟩:∃x,l[i]? =some x:=⟨l[i],List.getElem?_eq_getElem hlt⟩
   rcases Nat.eq_zero_or_pos i with h0 | h0
   ·skip
    have hi0:¬((0:Int) < (i:Int)):=by omega
    have hstep:risingAt lo hi l i=(inR x lo hi && risingAt lo hi l (i+1)):=by subst h0;exact risingAt_zero hx
    refine zn [0,1,2,9,10,11] ⟨?_⟩;refine v_seq ?_;intros;refine v_block ?_;intros
    have F:=Fc.mk (ai (gdm hx) (ai hi0 (ai @decide_false @Bool.and_false)))
    refine yR [0,1,2,7,8,9,10,11] ⟨?_⟩;refine yRc [0,1,2,9,10,11,33] (l1In_con _ _ _) ⟨?_⟩;refine v_condS _ rfl ?_ ?_
    ·intro hc1
     refine yR [6] ⟨?_⟩;refine zr ⟨?_⟩
     exact ret_pure rfl (by rw [←hR,hstep];congr 1;simp [inR];intros;omega) (.inl rfl)
    ·intro hc1
     refine zn [0,1,2,9,10,11] ⟨?_⟩;refine yV ⟨?_⟩;refine n5 _ (i+1) ?_ ?_ ?_
     ·refine weak_of [0,1,2,9,10,11] ?_
      simp only [keep_mk,keepE_nil,keepE_cons,look_cons,look_nil,Nat.reduceEqDiff,reduceIte]
      rfl
     ·exact ⟨by omega,by rw [←hR,hstep];simp [inR];intros;omega⟩
     ·show _ < _;omega
   ·skip
    obtain ⟨y,hy⟩:∃y,l[i - 1]? =some y:=⟨l[i - 1],List.getElem?_eq_getElem (by omega)⟩
    have hi0:(0:Int) < i:=by omega
    have hk:((i:Int) - 1).toNat=i - 1:=by omega
    have hstep:=risingAt_succ (lo:=lo) (hi:=hi) h0 hy hx
    refine zn [0,1,2,9,10,11] ⟨?_⟩;refine v_seq ?_;intros;refine v_block ?_;intros
    have F:=Fc.mk (ai (gdm hx) (ai hi0 (ai hk (ai (gdm hy) (ai @decide_true @Bool.and_true)))))
    refine yR [0,1,2,7,8,9,10,11] ⟨?_⟩;refine yRc [0,1,2,9,10,11,33] (l1In_con _ _ _) ⟨?_⟩;refine v_condS _ rfl ?_ ?_
    ·intro hc1
     refine yR [6] ⟨?_⟩;refine zr ⟨?_⟩
     exact ret_pure rfl (by rw [←hR,hstep];congr 1;simp [inR];intros;omega) (.inl rfl)
    ·intro hc1
     refine zn [0,1,2,9,10,11] ⟨?_⟩;refine yV ⟨?_⟩;refine n5 _ (i+1) ?_ ?_ ?_
     ·refine weak_of [0,1,2,9,10,11] ?_
      simp only [keep_mk,keepE_nil,keepE_cons,look_cons,look_nil,Nat.reduceEqDiff,reduceIte]
      rfl
     ·exact ⟨by omega,by rw [←hR,hstep];simp [inR];intros;omega⟩
     ·show _ < _;omega
  ·intro hc0
   refine zn [] ⟨?_⟩;refine yR [6] ⟨?_⟩;refine zr ⟨?_⟩
   exact ret_pure rfl (by rw [←hR,risingAt_end (by omega)]) (.inl rfl)
def markRow (k:Int) (n:Nat):List Int:=(List.range n).map fun j:Nat=>k+j
theorem mark_succ (k:Int) (n:Nat):markRow k (n+1)=markRow k n++[k+n]:=by simp [markRow,List.range_succ]
theorem mark_len (k:Int) (n:Nat):(markRow k n).length=n:=by simp [markRow]
theorem mark_step {l:List Int} {k:Int} {i:Nat} {x:Int} (h:l[i]? =some x):(markRow k i++l.drop i).set i (k+i)=markRow k (i+1)++l.drop (i+1):=by
  rw [getElem_drop_cons h,mark_succ,List.set_append_right _ _ (by rw [mark_len];omega),mark_len,Nat.sub_self,List.set_cons_zero,List.append_assoc]
  rfl
theorem mark_get {l:List Int} {k:Int} {i:Nat} {x:Int} (h:l[i]? =some x):(markRow k i++l.drop i)[i]? =some x:=by
  rw [List.getElem?_append_right (by rw [mark_len];omega),mark_len,Nat.sub_self,getElem_drop_cons h]
  rfl
theorem mark_all {l:List Int} {k:Int} {i:Nat} (h:i≤l.length):(markRow k i++l.drop i).length=l.length:=by simp [mark_len];omega
theorem l1Least_con (a b:Int):Con Try.prog 104 [.int .i64 a,.int .i64 b] [] (.int .i64 (if b < a then b else a)) []:=by
 refine v_con [.tmp 4] [] Try.func104 rfl rfl rfl (by simp [Try.ntmps104]) ?_
 intro Q0 n0 r0
 simp only [Try.ntmps104,envFrom,Nat.reduceAdd]
 have T:=Tys.mk Ty.t3
 have F:=Fc.mk True.intro
 refine yR [0,1] ⟨?_⟩;refine v_seq ?_;intros;refine yR [0,1,7] ⟨?_⟩;refine v_condS _ rfl ?_ ?_
 ·intro hc0
  refine yR [4] ⟨?_⟩;refine zr ⟨?_⟩
  exact ret_pure rfl (by congr 1;split<;>omega) (.inl rfl)
 ·intro hc0
  refine zn [1] ⟨?_⟩;refine yR [4] ⟨?_⟩;refine zr ⟨?_⟩
  exact ret_pure rfl (by congr 1;split<;>omega) (.inl rfl)
theorem l1Most_con (a b:Int):Con Try.prog 132 [.int .i64 a,.int .i64 b] [] (.int .i64 (if b > a then b else a)) []:=by
 refine v_con [.tmp 4] [] Try.func132 rfl rfl rfl (by simp [Try.ntmps132]) ?_
 intro Q0 n0 r0
 simp only [Try.ntmps132,envFrom,Nat.reduceAdd]
 have T:=Tys.mk Ty.t3
 have F:=Fc.mk True.intro
 refine yR [0,1] ⟨?_⟩;refine v_seq ?_;intros;refine yR [0,1,7] ⟨?_⟩;refine v_condS _ rfl ?_ ?_
 ·intro hc0
  refine yR [4] ⟨?_⟩;refine zr ⟨?_⟩
  exact ret_pure rfl (by congr 1;split<;>omega) (.inl rfl)
 ·intro hc0
  refine zn [1] ⟨?_⟩;refine yR [4] ⟨?_⟩;refine zr ⟨?_⟩
  exact ret_pure rfl (by congr 1;split<;>omega) (.inl rfl)
def chainFrom {α:Type} (ok:α→Bool) (bf:α→α→Bool):Option α→List α→Bool
  | _,[]=>true
  | none,x::l=>ok x && chainFrom ok bf (some x) l
  | some p,x::l=>ok x && bf p x && chainFrom ok bf (some x) l
def chainAt {α:Type} (ok:α→Bool) (bf:α→α→Bool) (l:List α) (i:Nat):Bool:=chainFrom ok bf (if i=0 then none else l[i - 1]?) (l.drop i)
theorem chain_zero {α:Type} {ok:α→Bool} {bf:α→α→Bool} {l:List α} {x:α} (h:l[0]? =some x):chainAt ok bf l 0=(ok x && chainAt ok bf l 1):=by
  simp only [chainAt,getElem_drop_cons h,if_true,chainFrom]
  simp [h]
theorem chain_succ {α:Type} {ok:α→Bool} {bf:α→α→Bool} {l:List α} {x y:α} {i:Nat} (h0:0 < i) (hy:l[i - 1]? =some y) (h:l[i]? =some x):chainAt ok bf l i=(ok x && bf y x && chainAt ok bf l (i+1)):=by
  simp only [chainAt,getElem_drop_cons h,hy,show ¬i=0 by omega,if_false,chainFrom]
  simp [h]
theorem chain_end {α:Type} {ok:α→Bool} {bf:α→α→Bool} {l:List α} {i:Nat} (h:l.length≤i):chainAt ok bf l i=true:=by
  simp only [chainAt,List.drop_of_length_le h]
  split<;>rfl
theorem chainFrom_ok {α:Type} {ok:α→Bool} {bf:α→α→Bool}:∀{l:List α} {p:Option α},chainFrom ok bf p l=true→∀x∈l,ok x=true
  | [],_,_,x,hx=>by cases hx
  | y ::l,p,h,x,hx=>by
    have h2:ok y=true∧chainFrom ok bf (some y) l=true:=by
      cases p<;>simp [chainFrom] at h<;>simp [h]
    rcases List.mem_cons.1 hx with rfl | h3
    · exact h2.1
    · exact chainFrom_ok h2.2 x h3
theorem chain_ok {α:Type} {ok:α→Bool} {bf:α→α→Bool} {l:List α} (h:chainAt ok bf l 0=true):∀x∈l,ok x=true:=chainFrom_ok h
def firstP {α:Type} (p:α→Bool):Nat→List α→Int
  | _,[]=>-1
  | i,x::l=>if p x=true then i else firstP p (i+1) l
theorem first_step {α:Type} {p:α→Bool} {l:List α} {i:Nat} {x:α} (h:l[i]? =some x):firstP p i (l.drop i)=if p x=true then (i:Int) else firstP p (i+1) (l.drop (i+1)):=by
  rw [getElem_drop_cons h,firstP]
theorem first_end {α:Type} {p:α→Bool} {l:List α} {i k:Nat} (h:l.length≤i):firstP p k (l.drop i)=-1:=by
  rw [List.drop_of_length_le h,firstP]
theorem first_any {α:Type} (p:α→Bool):∀(l:List α) (i:Nat),decide (0≤firstP p i l)=l.any p
  | [],i=>by rw [firstP];rfl
  | x::l,i=>by
    rw [firstP,List.any_cons]
    by_cases h:p x=true
    · rw [if_pos h,h];simp
    · rw [if_neg h,first_any p l (i+1),Bool.eq_false_iff.2 h];rfl
theorem l1Own_con (l:List Int) (hl:l.length≤1048576):Con Try.prog 87 [.sl (l.map (V.int .i64))] [] (.ref 0) [.arr (l.map (V.int .i64)) .flat]:=by
 have hns:(l.map (V.int .i64)).all V.noSl=true:=by rw [List.all_map,List.all_eq_true];intro a _;rfl
 refine v_con [.tmp 2] [] Try.func87 rfl rfl rfl (by simp [Try.ntmps87]) ?_
 intro Q0 n0 r0
 simp only [Try.ntmps87,envFrom,Nat.reduceAdd]
 have T:=Tys.mk (ai Ty.t3 Ty.t26)
 have F:=Fc.mk True.intro
 have F:=Fc.mk hns
 refine yR [0] ⟨?_⟩;refine yR [2] ⟨?_⟩;refine zr ⟨?_⟩
 exact ret_refK rfl rfl (by simp)
theorem ins0_con:Con Try.prog 121 [.ref 0,.int .i64 0,.int .i64 0] [.arr [] .flat] (.tup []) [.arr [] .flat]:=by
 refine v_con [] [] Try.func121 rfl rfl rfl (by simp [Try.ntmps121]) ?_
 intro Q0 n0 r0
 simp only [Try.ntmps121,envFrom,Nat.reduceAdd]
 have T:=Tys.mk (ai Ty.t3 (ai Ty.t4 Ty.t26))
 have F:=Fc.mk True.intro
 refine yR [0,1,2,6] ⟨?_⟩;refine v_block ?_;intros;refine v_loop (fun i=>⟨[(0,.ref 0),(1,.int .i64 0),(2,.int .i64 0),(6,.int .i64 1)],[.arr [] .flat],false,49,0⟩) (fun i=>True) (fun i=>0) () ?_ ?_ ?_
 ·refine weak_of [0,1,2,6] ?_
  simp only [keep_mk,keepE_nil,keepE_cons,look_cons,look_nil,Nat.reduceEqDiff,reduceIte]
  all_goals rfl
 ·trivial
 ·rintro i hok3 Q3 n3 e3 r3
  have hok:True:=hok3
  refine v_seq ?_;intros;refine yR [0,1,2,6,12] ⟨?_⟩;refine v_cond _ rfl ?_ ?_
  ·intro hc0
   exfalso;simp at hc0
  ·intro hc0
   try simp only [zC,reduceCtorEq] at hc0
   refine zx ⟨?_⟩;refine zf ⟨?_⟩
   exact ret_lent rfl (by simp) rfl (by simp) (by simp [Blk.kindIs]) (.inl rfl)
theorem pdq0_con (lim:Int):Con Try.prog 106 [.ref 0,.int .i64 0,.int .i64 0,.int .i64 lim] [.arr [] .flat] (.tup []) [.arr [] .flat]:=by
 refine v_con [] [(121,[0])] Try.func106 rfl rfl rfl (by simp [Try.ntmps106]) ?_
 intro Q0 n0 r0
 simp only [Try.ntmps106,envFrom,Nat.reduceAdd]
 have T:=Tys.mk (ai Ty.t3 (ai Ty.t4 (ai Ty.t26 Ty.t144)))
 have F:=Fc.mk True.intro
 refine yR [0,1,2,3,8] ⟨?_⟩;refine yR [0,1,2,3,8,9] ⟨?_⟩;refine v_block ?_;intros;refine v_loop (fun i=>⟨[(0,.ref 0),(1,.int .i64 0),(2,.int .i64 0),(3,.int .i64 lim),(8,.bool true),(9,.bool true)],[.arr [] .flat],false,134,0⟩) (fun i=>True) (fun i=>0) () ?_ ?_ ?_
 ·refine weak_of [0,1,2,3,8,9] ?_
  simp only [keep_mk,keepE_nil,keepE_cons,look_cons,look_nil,Nat.reduceEqDiff,reduceIte]
  all_goals rfl
 ·trivial
 ·rintro i hok4 Q4 n4 e4 r4
  have hok:True:=hok4
  refine v_block ?_;intros;refine yR [0,1,2,3,8,9,10] ⟨?_⟩;refine v_seq ?_;intros;refine yR [0,1,2,3,8,9,10,23] ⟨?_⟩;refine v_cond _ rfl ?_ ?_
  ·intro hc0
   try simp only [zC,reduceCtorEq] at hc0
   refine yRl [] (ins0_con) ⟨?_⟩;refine zr ⟨?_⟩
   exact ret_lent rfl (by simp) rfl (by simp) (by simp [Blk.kindIs]) (.inl rfl)
  ·intro hc0
   exfalso;simp at hc0
set_option maxRecDepth 100000 in
theorem len64_0_con:Con Try.prog 131 [.int .u64 0] [] (.int .i64 0) []:=by
 refine v_con [.tmp 2] [] Try.func131 rfl rfl rfl (by simp [Try.ntmps131]) ?_
 intro Q0 n0 r0
 simp only [Try.ntmps131,envFrom,Nat.reduceAdd]
 have T:=Tys.mk (ai Ty.t3 (ai Ty.t5 (ai Ty.t9 (ai Ty.t96 Ty.t133))))
 have F:=Fc.mk True.intro
 refine yR [0,2] ⟨?_⟩;refine v_seq ?_;intros;refine yR [0,2,4] ⟨?_⟩;refine v_cond _ rfl ?_ ?_
 ·intro hc0
  exfalso;simp at hc0
 ·intro hc0
  try simp only [zC,reduceCtorEq] at hc0
  refine zn [0,2] ⟨?_⟩;refine v_seq ?_;intros;refine yR [0,2,8] ⟨?_⟩;refine v_cond _ rfl ?_ ?_
  ·intro hc1
   exfalso;simp at hc1
  ·intro hc1
   try simp only [zC,reduceCtorEq] at hc1
   refine zn [0,2] ⟨?_⟩;refine v_seq ?_;intros;refine yR [0,2,14] ⟨?_⟩;refine v_cond _ rfl ?_ ?_
   ·intro hc2
    exfalso;simp at hc2
   ·intro hc2
    try simp only [zC,reduceCtorEq] at hc2
    refine zn [0,2] ⟨?_⟩;refine v_seqR [2] ?_;intro K11 k11;refine zq3 ⟨?_⟩;refine zConvert ⟨?_⟩;refine v_op ?_;intro K k
    simp only [zE,zL,zN,aStepM,optable,set_some,Nat.reduceEqDiff,reduceIte,Nat.reduceLT,implies_true,forall_const,reduceCtorEq,V.ofValue,V.ofScalar,V.un,V.gd,aExec,aop,aIndex,Int.toNat_natCast,Int.reduceToNat,Nat.reduceAdd,Nat.reduceLeDiff,Nat.reduceMul,Try.underlying9]
    repeat (refine ai (by first | decide | exact ⟨by decide,by decide⟩ | (intro _;exact ⟨by decide,by decide⟩) | rfl | exact ⟨_,rfl⟩) ?_)
    refine k _ ?_;clear k K;refine zConvert ⟨?_⟩;refine zBinOpW ⟨?_⟩;refine zAssign ⟨?_⟩;refine k11 _ ?_;refine zq2 ⟨?_⟩
    exact ret_pure rfl (by rfl) (.inl rfl)
theorem len_0_con:Con Try.prog 107 [.int .u64 0] [] (.int .i64 0) []:=by
 refine v_con [.tmp 2] [] Try.func107 rfl rfl rfl (by simp [Try.ntmps107]) ?_
 intro Q0 n0 r0
 simp only [Try.ntmps107,envFrom,Nat.reduceAdd]
 have T:=Tys.mk (ai Ty.t3 (ai Ty.t96 Ty.t133))
 have F:=Fc.mk True.intro
 refine yR [0] ⟨?_⟩;refine v_seq ?_;intros;refine v_cond _ rfl ?_ ?_
 ·intro hc0
  exfalso;simp at hc0
 ·intro hc0
  try simp only [zC,reduceCtorEq] at hc0
  refine zn [0] ⟨?_⟩;refine yRc [2] (len64_0_con) ⟨?_⟩;refine zr ⟨?_⟩
  exact ret_pure rfl rfl (.inl rfl)
theorem sort0_con:Con Try.prog 71 [.ref 0] [.arr [] .flat] (.tup []) [.arr [] .flat]:=by
 refine v_con [] [(106,[0])] Try.func71 rfl rfl rfl (by simp [Try.ntmps71]) ?_
 intro Q0 n0 r0
 simp only [Try.ntmps71,envFrom,Nat.reduceAdd]
 have T:=Tys.mk (ai Ty.t3 (ai Ty.t26 Ty.t133))
 have F:=Fc.mk True.intro
 refine yR [0,2] ⟨?_⟩;refine v_region ?_;intro K2 k2;refine zq3 ⟨?_⟩;refine zMove ⟨?_⟩;refine zConvert ⟨?_⟩;refine zc (len_0_con) ⟨?_⟩;refine zcl (pdq0_con 0) ⟨?_⟩;refine k2 _ ?_;refine n0 _ ?_;refine zf ⟨?_⟩
 exact ret_lent rfl (by simp) rfl (by simp) (by simp [Blk.kindIs]) (.inl rfl)
theorem sortAny_con (zs:List Int) (hl:zs.length < 4611686018427387904):Con Try.prog 71 [.ref 0] [.arr (zs.map (V.int .i64)) .flat] (.tup []) [.arr ((sortL zs).map (V.int .i64)) .flat]:=by
  by_cases hne:zs=[]
  · subst hne
    have e:sortL []=[]:=List.length_eq_zero_iff.1 (sortL_len [])
    rw [e];exact sort0_con
  · exact con_sort zs ⟨_,Try.func71,rfl,rfl⟩ hne (fun blk off cap w h1 h2=>Try.slices_Sort_int blk off cap zs w h1 h2 hl)
end Go.Proofs.Ytcdpeopiajgljaa
