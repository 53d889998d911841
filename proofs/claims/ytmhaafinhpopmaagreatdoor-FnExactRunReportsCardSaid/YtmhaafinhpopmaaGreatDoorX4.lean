/- What functions compute. No condition. -/
import Derived.Test.YtmhaafinhpopmaaGreatDoorX1
import Derived.Test.YtmhaafinhpopmaaGreatDoorShelf
set_option linter.unusedSimpArgs false
set_option linter.unusedVariables false
set_option linter.defProp false
namespace Go.Proofs.YtmhaafinhpopmaaGreatDoor
open Go Go.Vm
set_option maxHeartbeats 8000000
theorem markRow_zero (k:Int):markRow k 0=[]:=rfl
theorem set_cons_eq {α:Type} {l l':List α} {i:Nat} {x:α} (hi:i < l.length):(l.set i x).take (i+1)++l'=l.take i++x::l':=by
  rw [List.take_add_one,qlm hi,List.take_set_of_le (qlz _)];simp
theorem l1All_con (l:List Int) (lo hi:Int) (hl:l.length≤1048576):Con Tryz.prog 173 [.sl (l.map (V.int .i64)),.int .i64 lo,.int .i64 hi] [] (.bool (l.all (fun x=>inR x lo hi))) []:=by
 refine v_con [.tmp 6] [] Tryz.func173 rfl rfl rfl (by simp [Tryz.ntmps173]) ?_;intro Q0 n0 r0;simp only [Tryz.ntmps173,envFrom,Nat.reduceAdd];have T:=Tys.mk (ai Ty.t3 (ai Ty.t4 Ty.t35));have F:=Fc.mk True.intro;refine yR [0,1,2] ⟨?_⟩;refine v_seq ?_;intros;refine yR [1,2,9,10,11] ⟨?_⟩;refine v_block ?_;intros;refine v_loop (fun i=>⟨[(1,.int .i64 lo),(2,.int .i64 hi),(9,.sl (l.map (V.int .i64))),(10,.int .i64 l.length),(11,.int .i64 (Nat.cast i))],[],false,21,0⟩) (fun i=>i≤l.length∧l.all (fun x=>inR x lo hi)=(l.drop i).all (fun x=>inR x lo hi)) (fun i=>l.length - i) 0 ?_ ?_ ?_
 ·refine weak_of [1,2,9,10,11] ?_;simp only [keep_mk,keepE_nil,keepE_cons,look_cons,look_nil,Nat.reduceEqDiff,reduceIte];rfl
 ·exact ⟨qld _,by simp⟩
 ·rintro i hok5 Q5 n5 e5 r5;obtain ⟨hi1,hR⟩:=hok5;refine yR [1,2,9,10,11,12] ⟨?_⟩;refine v_seq ?_;intros;refine v_condS _ rfl ?_ ?_
  ·intro hc0;have hlt:i < l.length:=by omega
   obtain ⟨x,hx⟩:∃x,l[i]? =some x:=⟨l[i],qla hlt⟩;have hst:=all_drop (f:=(fun x=>inR x lo hi)) hx;refine zn [1,2,9,10,11] ⟨?_⟩;refine v_seq ?_;intros;refine v_block ?_;intros;have F:=Fc.mk (gdm hx);refine yR [1,2,8,9,10,11] ⟨?_⟩;refine yRc [1,2,9,10,11,19] (l1In_con _ _ _) ⟨?_⟩;refine v_condS _ rfl ?_ ?_
   ·intro hc1;have hb:inR x lo hi=false:=by cases hq:inR x lo hi with | false=>rfl | true=>(exfalso;simp [inR] at hq;have:=hc1 hq.1;omega)
    refine yR [6] ⟨?_⟩;refine zr ⟨?_⟩;exact ret_pure rfl (by rw [hR,hst,hb];rfl) (.inl rfl)
   ·intro hc1;have hb:inR x lo hi=true:=by rw [inR,decide_eq_true hc1.1,decide_eq_true hc1.2];rfl
    refine zn [1,2,9,10,11] ⟨?_⟩;refine yV ⟨?_⟩;refine n5 _ (i+1) ?_ ?_ ?_
    ·refine weak_of [1,2,9,10,11] ?_;simp only [keep_mk,keepE_nil,keepE_cons,look_cons,look_nil,Nat.reduceEqDiff,reduceIte];rfl
    ·exact ⟨by omega,by rw [hR,hst,hb];simp⟩
    ·show _ < _;omega
  ·intro hc0;refine zn [] ⟨?_⟩;refine yR [6] ⟨?_⟩;refine zr ⟨?_⟩;exact ret_pure rfl (by rw [hR,qle (by omega)];rfl) (.inl rfl)
def splitSt (s:ByteArray) (b:Int):Nat→List ByteArray×Nat
  | 0=>([],0)
  | i+1=>if byteAt s i=b then ((splitSt s b i).1++[s.extract (splitSt s b i).2 i],i+1) else splitSt s b i
def cntB (s:ByteArray) (b:Int):Nat→Nat
  | 0=>0
  | i+1=>cntB s b i+(if byteAt s i=b then 1 else 0)
theorem split_from (s:ByteArray) (b:Int):∀i,(splitSt s b i).2≤i
  | 0=>qlz _
  | i+1=>by
    have:=split_from s b i;rw [splitSt];split
    · exact qlz _
    · omega
theorem split_len (s:ByteArray) (b:Int):∀i,(splitSt s b i).1.length=cntB s b i
  | 0=>rfl
  | i+1=>by
    have:=split_len s b i;rw [splitSt,cntB];split<;>simp [this]
theorem cntB_le (s:ByteArray) (b:Int):∀i,cntB s b i≤i
  | 0=>qlz _
  | i+1=>by
    have:=cntB_le s b i;rw [cntB];split<;>omega
theorem l1Split_con (s:ByteArray) (b:Int) (hs:s.size≤4194304):Con Tryz.prog 73 [.str s,.int .u8 b] [] (.ref 0) [.arr (((splitSt s b s.size).1++[s.extract (splitSt s b s.size).2 s.size]).map V.str) .flat]:=by
 refine v_con [.tmp 4] [] Tryz.func73 rfl rfl rfl (by simp [Tryz.ntmps73]) ?_;intro Q0 n0 r0;simp only [Tryz.ntmps73,envFrom,Nat.reduceAdd];have T:=Tys.mk (ai Ty.t3 (ai Ty.t5 (ai Ty.t9 Ty.t59)));have F:=Fc.mk True.intro;refine yR [0,1] ⟨?_⟩;refine yR [0,1,5] ⟨?_⟩;refine yR [0,1,5,6] ⟨?_⟩;refine v_seq ?_;intros;refine yR [0,1,5,6,7] ⟨?_⟩;refine v_block ?_;intros;refine v_loop (fun i=>⟨[(0,.str s),(1,.int .u8 b),(5,.ref 0),(6,.int .i64 (Nat.cast (splitSt s b i).2)),(7,.int .i64 (Nat.cast i))],[.arr ((splitSt s b i).1.map V.str) .flat],false,34,0⟩) (fun i=>i≤s.size) (fun i=>s.size - i) 0 ?_ ?_ ?_
 ·refine weak_bothS [0,1,5,6,7] [1] ⟨?_⟩;rfl
 ·exact qld _
 ·rintro i hok7 Q7 n7 e7 r7;have hi1:i≤s.size:=hok7;refine v_seq ?_;intros;refine yR [0,1,5,6,7,11] ⟨?_⟩;refine v_condS _ rfl ?_ ?_
  ·intro hc0;have hlt:i < s.size:=by omega
   have hfr:=split_from s b i;have hsl:=split_len s b i;have hcl:=cntB_le s b i;have hal:(splitSt s b i).1.length≤i:=by omega
   refine zn [0,1,5,6,7] ⟨?_⟩;refine v_seq ?_;intros;refine v_block ?_;intros;refine yR [0,1,5,6,7,18] ⟨?_⟩;refine v_condS _ rfl ?_ ?_
   ·intro hc1;have hst1:splitSt s b (i+1)=((splitSt s b i).1++[s.extract (splitSt s b i).2 i],i+1):=by rw [splitSt,if_pos hc1]
    refine yR [0,1,5,7] ⟨?_⟩;refine yQ [0,1,5,6,7] ⟨?_⟩;refine yV ⟨?_⟩;refine n7 _ (i+1) ?_ ?_ ?_
    ·refine weak_bothS [0,1,5,6,7] [2] ⟨?_⟩;simp only [hst1,List.map_append,List.map_cons,List.map_nil];rfl
    ·exact hlt
    ·show _ < _;omega
   ·intro hc1;have hst0:splitSt s b (i+1)=splitSt s b i:=by rw [splitSt,if_neg hc1]
    refine zn [0,1,5,6,7] ⟨?_⟩;refine yV ⟨?_⟩;refine n7 _ (i+1) ?_ ?_ ?_
    ·refine weak_bothS [0,1,5,6,7] [0] ⟨?_⟩;simp only [hst0];rfl
    ·exact hlt
    ·show _ < _;omega
  ·intro hc0;have hend:i=s.size:=by omega
   subst hend;have hfr:=split_from s b s.size;have hsl:=split_len s b s.size;have hcl:=cntB_le s b s.size;have hal:(splitSt s b s.size).1.length≤s.size:=by omega
   refine zn [0,5,6] ⟨?_⟩;refine yR [4] ⟨?_⟩;refine zr ⟨?_⟩;simp only [List.map_append,List.map_cons,List.map_nil];exact ret_ref rfl (.inl rfl)
end Go.Proofs.YtmhaafinhpopmaaGreatDoor
