/- What functions compute. No condition. -/
import Derived.Test.YtmhaafinhpopmaaGreatDoorX10
import Derived.Test.YtmhaafinhpopmaaGreatDoorX4
import Derived.Test.YtmhaafinhpopmaaGreatDoorX3
set_option linter.unusedSimpArgs false
set_option linter.unusedVariables false
set_option linter.defProp false
namespace Go.Proofs.YtmhaafinhpopmaaGreatDoor
open Go Go.Vm
set_option maxHeartbeats 8000000
theorem l1Own_con (l:List Int) (hl:l.length≤1048576):Con Tryz.prog 174 [.sl (l.map (V.int .i64))] [] (.ref 0) [.arr (l.map (V.int .i64)) .flat]:=by
 have hns:(l.map (V.int .i64)).all V.noSl=true:=by rw [List.all_map,qls];intro a _;rfl
 refine v_con [.tmp 2] [] Tryz.func174 rfl rfl rfl (by simp [Tryz.ntmps174]) ?_;intro Q0 n0 r0;simp only [Tryz.ntmps174,envFrom,Nat.reduceAdd];have T:=Tys.mk (ai Ty.t3 Ty.t35);have F:=Fc.mk True.intro;have F:=Fc.mk hns;refine yR [0] ⟨?_⟩;refine yR [2] ⟨?_⟩;refine zr ⟨?_⟩;exact ret_refK rfl rfl (by simp)
def idxFromS (x:ByteArray):Nat→List ByteArray→Int
  | _,[]=>-1
  | i,y::l=>if x=y then i else idxFromS x (i+1) l
theorem idxS_step {x y:ByteArray} {l:List ByteArray} {i:Nat} (h:l[i]? =some y):idxFromS x i (l.drop i)=if x=y then (i:Int) else idxFromS x (i+1) (l.drop (i+1)):=by
  rw [getElem_drop_cons h,idxFromS]
theorem idxS_end {x:ByteArray} {l:List ByteArray} {i k:Nat} (h:l.length≤i):idxFromS x k (l.drop i)=-1:=by
  rw [qle h,idxFromS]
def inS (x:ByteArray) (l:List ByteArray):Bool:=l.any fun y=>decide (x=y)
theorem idxS_mem (x:ByteArray):∀(l:List ByteArray) (i:Nat),decide (0≤idxFromS x i l)=inS x l
  | [],i=>by rw [idxFromS];rfl
  | y::l,i=>by
    rw [idxFromS,inS,List.any_cons];split
    · rename_i h;simp [h]
    · rename_i h;rw [idxS_mem x l (i+1)];simp [h,inS]
theorem inS_step {x y:ByteArray} {l:List ByteArray} {i:Nat} (h:l[i]? =some y):inS x (l.drop i)=(decide (x=y) || inS x (l.drop (i+1))):=by
  rw [getElem_drop_cons h,inS,List.any_cons];rfl
theorem inS_end {x:ByteArray} {l:List ByteArray} {i:Nat} (h:l.length≤i):inS x (l.drop i)=false:=by
  rw [qle h];rfl
theorem slIndexS_con (l:List ByteArray) (x:ByteArray) (hl:l.length≤1048576):Con Tryz.prog 218 [.sl (l.map V.str),.str x] [] (.int .i64 (idxFromS x 0 l)) []:=by
 refine v_con [.tmp 4] [] Tryz.func218 rfl rfl rfl (by simp [Tryz.ntmps218]) ?_;intro Q0 n0 r0;simp only [Tryz.ntmps218,envFrom,Nat.reduceAdd];have T:=Tys.mk (ai Ty.t3 (ai Ty.t9 Ty.t59));have F:=Fc.mk True.intro;refine yR [0,1] ⟨?_⟩;refine v_seq ?_;intros;refine yR [0,1,7,8] ⟨?_⟩;refine v_block ?_;intros;refine v_loop (fun i=>⟨[(0,.sl (l.map V.str)),(1,.str x),(7,.int .i64 l.length),(8,.int .i64 (Nat.cast i))],[],false,19,0⟩) (fun i=>i≤l.length∧idxFromS x i (l.drop i)=idxFromS x 0 l) (fun i=>l.length - i) 0 ?_ ?_ ?_
 ·refine weak_of [0,1,7,8] ?_;simp only [keep_mk,keepE_nil,keepE_cons,look_cons,look_nil,Nat.reduceEqDiff,reduceIte];rfl
 ·exact ⟨qld _,rfl⟩
 ·rintro i hok5 Q5 n5 e5 r5;obtain ⟨hi1,hR⟩:=hok5;refine yR [0,1,7,8,9] ⟨?_⟩;refine v_seq ?_;intros;refine v_condS _ rfl ?_ ?_
  ·intro hc0;have hlt:i < l.length:=by omega
   obtain ⟨y,hy⟩:∃y,l[i]? =some y:=⟨l[i],qla hlt⟩;have hst:=idxS_step (x:=x) hy;refine zn [0,1,7,8] ⟨?_⟩;refine v_seq ?_;intros;refine v_block ?_;intros;have F:=Fc.mk (gdm hy);refine yR [0,1,5,7,8] ⟨?_⟩;refine yR [0,1,5,7,8,16] ⟨?_⟩;refine v_condS _ rfl ?_ ?_
   ·intro hc1;refine yR [4] ⟨?_⟩;refine zr ⟨?_⟩;exact ret_pure rfl (by rw [←hR,hst,if_pos hc1]) (.inl rfl)
   ·intro hc1;refine zn [0,1,7,8] ⟨?_⟩;refine yV ⟨?_⟩;refine n5 _ (i+1) ?_ ?_ ?_
    ·refine weak_bothS [0,1,7,8] [] ⟨?_⟩;rfl
    ·exact ⟨by omega,by rw [←hR,hst,if_neg hc1]⟩
    ·show _ < _;omega
  ·intro hc0;refine zn [] ⟨?_⟩;refine yR [4] ⟨?_⟩;refine zr ⟨?_⟩;exact ret_pure rfl (by rw [←hR,idxS_end (by omega)]) (.inl rfl)
theorem slContainsS_con (l:List ByteArray) (x:ByteArray) (hl:l.length≤1048576):Con Tryz.prog 189 [.sl (l.map V.str),.str x] [] (.bool (inS x l)) []:=by
 refine v_con [.tmp 4] [] Tryz.func189 rfl rfl rfl (by simp [Tryz.ntmps189]) ?_;intro Q0 n0 r0;simp only [Tryz.ntmps189,envFrom,Nat.reduceAdd];have T:=Tys.mk (ai Ty.t3 (ai Ty.t9 Ty.t59));have F:=Fc.mk True.intro;refine yR [0,1] ⟨?_⟩;refine yRc [4] (slIndexS_con l x hl) ⟨?_⟩;refine zr ⟨?_⟩;exact ret_pure rfl (by congr 1;exact idxS_mem x l 0) (.inl rfl)
theorem dsHas_con (l:List ByteArray) (x:ByteArray) (hl:l.length≤1048576):Con Tryz.prog 171 [.sl (l.map V.str),.str x] [] (.bool (inS x l)) []:=by
 refine v_con [.tmp 4] [] Tryz.func171 rfl rfl rfl (by simp [Tryz.ntmps171]) ?_;intro Q0 n0 r0;simp only [Tryz.ntmps171,envFrom,Nat.reduceAdd];have T:=Tys.mk (ai Ty.t3 (ai Ty.t9 Ty.t59));have F:=Fc.mk True.intro;refine yR [0,1] ⟨?_⟩;refine v_seq ?_;intros;refine yR [1,7,8,9] ⟨?_⟩;refine v_block ?_;intros;refine v_loop (fun i=>⟨[(1,.str x),(7,.sl (l.map V.str)),(8,.int .i64 l.length),(9,.int .i64 (Nat.cast i))],[],false,17,0⟩) (fun i=>i≤l.length∧inS x (l.drop i)=inS x l) (fun i=>l.length - i) 0 ?_ ?_ ?_
 ·refine weak_of [1,7,8,9] ?_;simp only [keep_mk,keepE_nil,keepE_cons,look_cons,look_nil,Nat.reduceEqDiff,reduceIte];rfl
 ·exact ⟨qld _,rfl⟩
 ·rintro i hok5 Q5 n5 e5 r5;obtain ⟨hi1,hR⟩:=hok5;refine yR [1,7,8,9,10] ⟨?_⟩;refine v_seq ?_;intros;refine v_condS _ rfl ?_ ?_
  ·intro hc0;have hlt:i < l.length:=by omega
   obtain ⟨y,hy⟩:∃y,l[i]? =some y:=⟨l[i],qla hlt⟩;have hst:=inS_step (x:=x) hy;refine zn [1,7,8,9] ⟨?_⟩;refine v_seq ?_;intros;refine v_block ?_;intros;have F:=Fc.mk (gdm hy);refine yR [1,6,7,8,9] ⟨?_⟩;refine yR [1,7,8,9,15] ⟨?_⟩;refine v_condS _ rfl ?_ ?_
   ·intro hc1;refine yR [4] ⟨?_⟩;refine zr ⟨?_⟩;exact ret_pure rfl (by rw [←hR,hst,decide_eq_true hc1.symm];rfl) (.inl rfl)
   ·intro hc1;refine zn [1,7,8,9] ⟨?_⟩;refine yV ⟨?_⟩;refine n5 _ (i+1) ?_ ?_ ?_
    ·refine weak_bothS [1,7,8,9] [] ⟨?_⟩;rfl
    ·exact ⟨by omega,by rw [←hR,hst,decide_eq_false (fun q=>hc1 q.symm)];rfl⟩
    ·show _ < _;omega
  ·intro hc0;refine zn [] ⟨?_⟩;refine yR [4] ⟨?_⟩;refine zr ⟨?_⟩;exact ret_pure rfl (by rw [←hR,inS_end (by omega)]) (.inl rfl)
theorem dsNames_con (l:List ByteArray) (hl:l.length≤1048576):Con Tryz.prog 212 [.sl (l.map V.str)] [] (.bool (chainAt (fun _:ByteArray=>true) strLt l 0)) []:=by
 refine v_con [.tmp 2] [] Tryz.func212 rfl rfl rfl (by simp [Tryz.ntmps212]) ?_;intro Q0 n0 r0;simp only [Tryz.ntmps212,envFrom,Nat.reduceAdd];have T:=Tys.mk (ai Ty.t3 (ai Ty.t9 Ty.t59));have F:=Fc.mk True.intro;refine yR [0] ⟨?_⟩;refine v_seq ?_;intros;refine yR [0,5,6,7] ⟨?_⟩;refine v_block ?_;intros;refine v_loop (fun i=>⟨[(0,.sl (l.map V.str)),(5,.sl (l.map V.str)),(6,.int .i64 l.length),(7,.int .i64 (Nat.cast i))],[],false,24,0⟩) (fun i=>i≤l.length∧chainAt (fun _:ByteArray=>true) strLt l i=chainAt (fun _:ByteArray=>true) strLt l 0) (fun i=>l.length - i) 0 ?_ ?_ ?_
 ·refine weak_of [0,5,6,7] ?_;simp only [keep_mk,keepE_nil,keepE_cons,look_cons,look_nil,Nat.reduceEqDiff,reduceIte];rfl
 ·exact ⟨qld _,rfl⟩
 ·rintro i hok5 Q5 n5 e5 r5;obtain ⟨hi1,hR⟩:=hok5;refine yR [0,5,6,7,8] ⟨?_⟩;refine v_seq ?_;intros;refine v_condS _ rfl ?_ ?_
  ·intro hc0;have hlt:i < l.length:=by omega
   obtain ⟨x,hx⟩:∃x,l[i]? =some x:=⟨l[i],qla hlt⟩;rcases ql8 i with h0 | h0
   ·skip;have hi0:¬((0:Int) < (i:Int)):=by omega
    have hst:chainAt (fun _:ByteArray=>true) strLt l i=chainAt (fun _:ByteArray=>true) strLt l (i+1):=by have q:=chain_zero (ok:=(fun _:ByteArray=>true)) (bf:=strLt) (l:=l) (x:=x) (by subst h0;exact hx);subst h0;simpa using q
    refine zn [0,5,6,7] ⟨?_⟩;refine v_seq ?_;intros;refine v_block ?_;intros;have F:=Fc.mk (ai (gdm hx) (ai hi0 (ai @decide_false @qma)));refine yR [0,3,4,5,6,7] ⟨?_⟩;refine yR [0,5,6,7,22] ⟨?_⟩;refine v_cond _ rfl ?_ ?_
    ·intro hc1;exfalso;simp at hc1
    ·intro hc1;try simp only [zC,reduceCtorEq] at hc1
     refine zn [0,5,6,7] ⟨?_⟩;refine yV ⟨?_⟩;refine n5 _ (i+1) ?_ ?_ ?_
     ·refine weak_bothS [0,5,6,7] [] ⟨?_⟩;rfl
     ·exact ⟨by omega,by first | (rw [←hR,hst];done) | (rw [←hR,hst];(try simp at hc1);first | (simp [hc1];done) | (simp;done) | rfl)⟩
     ·show _ < _;omega
   ·skip;obtain ⟨y,hy⟩:∃y,l[i - 1]? =some y:=⟨_,qla (by omega)⟩;have hi0:(0:Int) < i:=by omega
    have hk:((i:Int) - 1).toNat=i - 1:=by omega
    have hst:=chain_succ (ok:=(fun _:ByteArray=>true)) (bf:=strLt) h0 hy hx;refine zn [0,5,6,7] ⟨?_⟩;refine v_seq ?_;intros;refine v_block ?_;intros;have F:=Fc.mk (ai (gdm hx) (ai hi0 (ai hk (ai (gdm hy) (ai @decide_true @qmb)))));refine yR [0,3,4,5,6,7] ⟨?_⟩;refine yR [0,5,6,7,22] ⟨?_⟩;refine v_condS _ rfl ?_ ?_
    ·intro hc1;refine yR [2] ⟨?_⟩;refine zr ⟨?_⟩;exact ret_pure rfl (by rw [←hR,hst];(try simp at hc1);simp [hc1]) (.inl rfl)
    ·intro hc1;refine zn [0,5,6,7] ⟨?_⟩;refine yV ⟨?_⟩;refine n5 _ (i+1) ?_ ?_ ?_
     ·refine weak_bothS [0,5,6,7] [] ⟨?_⟩;rfl
     ·exact ⟨by omega,by first | (rw [←hR,hst];done) | (rw [←hR,hst];(try simp at hc1);first | (simp [hc1];done) | (simp;done) | rfl)⟩
     ·show _ < _;omega
  ·intro hc0;refine zn [] ⟨?_⟩;refine yR [2] ⟨?_⟩;refine zr ⟨?_⟩;exact ret_pure rfl (by rw [←hR,chain_end (by omega)]) (.inl rfl)
theorem findA_cases (fl:List TA) (s:ByteArray):findA fl s=-1∨∃(k:Nat) (x:TA),findA fl s=(k:Int)∧fl[k]? =some x∧x.1=s:=by
  by_cases h:findA fl s=-1
  · exact .inl h
  · obtain ⟨k,h1,h2,_,x,h4,h5⟩:=first_some h
    exact .inr ⟨k,x,by rw [findA,h2,Nat.zero_add],h4,by simpa using h5⟩
def need4 (l:List Int):Bool:=decide ((l.length:Int)=4) && l.all (fun x:Int=>inR x 0 6)
theorem need4_facts {l:List Int} (h:need4 l=true):l.length=4∧∀x∈l,0≤x∧x≤6:=by
  simp only [need4,Bool.and_eq_true,decide_eq_true_eq,List.all_eq_true,inR] at h;exact ⟨by omega,h.2⟩
theorem isNeed_con (l:List Int) (hl:l.length≤1048576):Con Tryz.prog 145 [.sl (l.map (V.int .i64))] [] (.bool (need4 l)) []:=by
 refine v_con [.tmp 2] [] Tryz.func145 rfl rfl rfl (by simp [Tryz.ntmps145]) ?_;intro Q0 n0 r0;simp only [Tryz.ntmps145,envFrom,Nat.reduceAdd];have T:=Tys.mk (ai Ty.t3 (ai Ty.t4 Ty.t35));have F:=Fc.mk True.intro;refine yR [0] ⟨?_⟩;refine v_seq ?_;intros;refine yR [0,5,6,7] ⟨?_⟩;refine v_block ?_;intros;refine v_loop (fun i=>⟨[(0,.sl (l.map (V.int .i64))),(5,.sl (l.map (V.int .i64))),(6,.int .i64 l.length),(7,.int .i64 (Nat.cast i))],[],false,18,0⟩) (fun i=>i≤l.length∧(l.drop i).all (fun x:Int=>inR x 0 6)=l.all (fun x:Int=>inR x 0 6)) (fun i=>l.length - i) 0 ?_ ?_ ?_
 ·refine weak_of [0,5,6,7] ?_;simp only [keep_mk,keepE_nil,keepE_cons,look_cons,look_nil,Nat.reduceEqDiff,reduceIte];rfl
 ·exact ⟨qld _,rfl⟩
 ·rintro i hok5 Q5 n5 e5 r5;obtain ⟨hi1,hR⟩:=hok5;refine yR [0,5,6,7,8] ⟨?_⟩;refine v_seq ?_;intros;refine v_condS _ rfl ?_ ?_
  ·intro hc0;have hlt:i < l.length:=by omega
   obtain ⟨x,hx⟩:∃x,l[i]? =some x:=⟨_,qla hlt⟩;have hst:=all_step (p:=(fun x:Int=>inR x 0 6)) hx;refine zn [0,5,6,7] ⟨?_⟩;refine v_seq ?_;intros;refine v_block ?_;intros;have F:=Fc.mk (gdm hx);refine yR [0,4,5,6,7] ⟨?_⟩;refine yRc [0,5,6,7,13] (inside_con _ _ _) ⟨?_⟩;refine v_condS _ rfl ?_ ?_
   ·intro hc1;refine yR [2] ⟨?_⟩;refine zr ⟨?_⟩;exact ret_pure rfl (by rw [need4,←hR,hst];(try simp at hc1);simp [inR];intros;omega) (.inl rfl)
   ·intro hc1;refine zn [0,5,6,7] ⟨?_⟩;refine yV ⟨?_⟩;refine n5 _ (i+1) ?_ ?_ ?_
    ·refine weak_bothS [0,5,6,7] [] ⟨?_⟩;rfl
    ·exact ⟨by omega,by rw [←hR,hst];(try simp at hc1);simp [inR];intros;omega⟩
    ·show _ < _;omega
  ·intro hc0;refine zn [0] ⟨?_⟩;refine yR [2] ⟨?_⟩;refine zr ⟨?_⟩;exact ret_pure rfl (by rw [need4,←hR,all_end (by omega)];simp) (.inl rfl)
theorem tbNeed_con (l:List Int) (hl:l.length≤1048576):Con Tryz.prog 172 [.sl (l.map (V.int .i64))] [] (.bool (need4 l)) []:=by
 refine v_con [.tmp 2] [] Tryz.func172 rfl rfl rfl (by simp [Tryz.ntmps172]) ?_;intro Q0 n0 r0;simp only [Tryz.ntmps172,envFrom,Nat.reduceAdd];have T:=Tys.mk (ai Ty.t3 (ai Ty.t4 Ty.t35));have F:=Fc.mk True.intro;refine yR [0] ⟨?_⟩;refine yRg [2] (l1All_con l 0 6 hl) ⟨?_⟩;refine zr ⟨?_⟩;exact ret_pure rfl (by simp [need4,inR]) (.inl rfl)
theorem cloneInt_con (l:List Int) (hl:l.length≤1048576):Con Tryz.prog 149 [.sl (l.map (V.int .i64))] [] (.ref 0) [.arr (l.map (V.int .i64)) .flat]:=by
 have hns:(l.map (V.int .i64)).all V.noSl=true:=by rw [List.all_map,qls];intro a _;rfl
 refine v_con [.tmp 2] [] Tryz.func149 rfl rfl rfl (by simp [Tryz.ntmps149]) ?_;intro Q0 n0 r0;simp only [Tryz.ntmps149,envFrom,Nat.reduceAdd];have T:=Tys.mk (ai Ty.t3 Ty.t35);have F:=Fc.mk True.intro;have F:=Fc.mk hns;refine yR [0] ⟨?_⟩;refine v_seq ?_;intros;refine v_seqR [0,4] ?_;intro K3 k3;refine zMove ⟨?_⟩;refine zNil ⟨?_⟩;intro nb4 hnb4;refine k3 _ ?_;refine zk ⟨?_⟩;refine v_condS _ rfl ?_ ?_
 ·intro hc0;have hnil:l=[]:=by cases l with | nil=>rfl | cons a b=>have:=hnb4 (by simp);rw [hc0] at this;cases this
  refine yR [2] ⟨?_⟩;refine zr ⟨?_⟩;rw [hnil];exact ret_refK rfl rfl rfl
 ·intro hc0;refine zn [0] ⟨?_⟩;refine yR [2] ⟨?_⟩;refine zr ⟨?_⟩;exact ret_refK rfl rfl (by simp)
def szSL (n:Int) (l:List ByteArray):Int:=if n - (l.length:Int) < 0 then -1 else szLst szStr1 (n - (l.length:Int)) l
theorem szLst_neg {α:Type} {f:Int→α→Int}:∀{l:List α} {n:Int},0≤n→szLst f n l < 0→szLst f n l=-1
  | [],n,h0,h=>by rw [szLst] at h;omega
  | x ::l,n,h0,h=>by
    rw [szLst] at h⊢
    by_cases q:f n x < 0
    · rw [if_pos q]
    · rw [if_neg q] at h⊢
      exact szLst_neg (by omega) h
theorem szSL_neg {n:Int} {l:List ByteArray} (h:szSL n l < 0):szSL n l=-1:=by
  unfold szSL at h⊢;split at h
  · rename_i q;rw [if_pos q]
  · rename_i q;rw [if_neg q];exact szLst_neg (by omega) h
theorem szSL_le {n:Int} {l:List ByteArray} (hn:0≤n):szSL n l≤n:=by
  unfold szSL;split
  · omega
  · by_cases h:0≤szLst szStr1 (n - (l.length:Int)) l
    · have:=szLst_down szStr1_le (by omega) h;omega
    · omega
theorem szSL_len {n:Int} {l:List ByteArray} (h:0≤szSL n l):(l.length:Int)≤n:=by
  unfold szSL at h;split at h<;>omega
theorem szS_neg {n:Int} {l:List Int} (h:szS n l < 0):szS n l=-1:=by
  unfold szS at h⊢;split at h
  · rename_i q;rw [if_pos q]
  · omega
theorem szS_le {n:Int} {l:List Int} (hn:0≤n):szS n l≤n:=by
  unfold szS;split<;>omega
theorem szS_len {n:Int} {l:List Int} (h:0≤szS n l):(l.length:Int)≤n:=by
  unfold szS at h;split at h<;>omega
end Go.Proofs.YtmhaafinhpopmaaGreatDoor
