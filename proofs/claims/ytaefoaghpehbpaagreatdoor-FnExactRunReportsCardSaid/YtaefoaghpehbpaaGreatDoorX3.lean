/- What functions compute. No condition. -/
import Derived.Test.YtaefoaghpehbpaaGreatDoorUz
import Derived.Test.YtaefoaghpehbpaaGreatDoorUty
import Derived.Test.YtaefoaghpehbpaaGreatDoorUmG
import Derived.Test.YtaefoaghpehbpaaGreatDoorX1
set_option linter.unusedSimpArgs false
set_option linter.unusedVariables false
set_option linter.defProp false
namespace Go.Proofs.YtaefoaghpehbpaaGreatDoor
open Go Go.Vm
set_option maxHeartbeats 8000000
def markD:Nat→Int→ByteArray→ByteArray
  | 0,_,out=>out
  | m+1,k,out=>if 0 < k then markD m (k / 10) (strOf [IntKind.u8.wrap (48+k % 10)]++out) else out
def markT (k:Int):ByteArray:=if k≤0 then ⟨#[109,48]⟩ else ⟨#[109]⟩++markD 19 k ⟨#[]⟩
theorem markD_stop {m:Nat} {k:Int} {out:ByteArray} (h:¬0 < k):markD m k out=out:=by
  cases m with
  | zero=>rfl
  | succ m=>rw [markD,if_neg h]
theorem str1 (n:Int):(strOf [n]).size=1:=rfl
theorem markText_con (n:Int) (hn:n≤1152921504606846976):Con Tryz.prog 85 [.int .i64 n] [] (.str (markT n)) []:=by
 have hz1:(⟨#[109]⟩:ByteArray).size=1:=rfl
 refine v_con [.tmp 2] [] Tryz.func85 rfl rfl rfl (by simp [Tryz.ntmps85]) ?_
 intro Q0 n0 r0
 simp only [Tryz.ntmps85,envFrom,Nat.reduceAdd]
 have T:=Tys.mk (ai Ty.t3 (ai Ty.t5 (ai Ty.t9 Ty.t59)))
 have F:=Fc.mk True.intro
 refine yR [0] ⟨?_⟩;refine v_seq ?_;intros;refine yR [0,5] ⟨?_⟩;refine v_condS _ rfl ?_ ?_
 ·intro hc0
  refine yR [2] ⟨?_⟩;refine zr ⟨?_⟩
  exact ret_pure rfl (by rw [markT,if_pos hc0]) (.inl rfl)
 ·intro hc0
  refine zn [0] ⟨?_⟩;refine yR [0,3] ⟨?_⟩;refine v_seq ?_;intros;refine v_block ?_;intros;refine v_loop (fun p=>⟨[(0,.int .i64 p.2.1),(3,.str p.2.2)],[],false,20,0⟩) (fun p=>0≤p.2.1∧p.2.1 < 10 ^ p.1∧p.2.1≤1152921504606846976∧p.2.2.size+p.1≤100∧markD p.1 p.2.1 p.2.2=markD 19 n ⟨#[]⟩) (fun p=>p.1) ((19,n,⟨#[]⟩):Nat×Int×ByteArray) ?_ ?_ ?_
  ·refine weak_of [0,3] ?_
   simp only [keep_mk,keepE_nil,keepE_cons,look_cons,look_nil,Nat.reduceEqDiff,reduceIte]
   all_goals rfl
  ·exact ⟨by show 0≤n;omega,by show n < (10:Int) ^ 19;rw [show (10:Int) ^ 19=10000000000000000000 from by decide];omega,hn,by show (0:Nat)+19≤100;omega,rfl⟩
  ·rintro ⟨m0,k,out⟩ hok9 Q9 n9 e9 r9
   obtain ⟨hk1,hk2,hk3,hk4,hR⟩:=hok9
   simp only [] at hk1 hk2 hk3 hk4 hR⊢
   refine v_seq ?_;intros;refine yR [0,3,7] ⟨?_⟩;refine v_condS _ rfl ?_ ?_
   ·intro hc1
    obtain ⟨m,rfl⟩:∃m',m0=m'+1:=⟨m0 - 1,by cases m0 with | zero=>(simp at hk2;omega) | succ n=>rfl⟩
    have hq:k.tdiv 10=k / 10:=Int.tdiv_eq_ediv_of_nonneg (by omega)
    have hr:k.tmod 10=k % 10:=Int.tmod_eq_emod_of_nonneg (by omega)
    have hs1:=str1 (IntKind.u8.wrap (48+k % 10))
    have hpow:(10:Int) ^ (m+1)=10 * 10 ^ m:=by rw [Int.pow_succ];omega
    refine zn [0,3] ⟨?_⟩;refine v_block ?_;intros
    have F:=Fc.mk (ai hq hr)
    refine yR [0,3] ⟨?_⟩;refine yV ⟨?_⟩;refine n9 _ (m,k / 10,strOf [IntKind.u8.wrap (48+k % 10)]++out) ?_ ?_ ?_
    ·refine weak_both [0,3] [] (by decide) (by simp) ?_ ?_ ?_
     ·simp [keep_mk,keepE_nil,keepE_cons,look_cons,V.only,V.onlyL,idx]<;>(first | rfl | decide)
     ·simp [Blk.kindIs,fillK_mix,thK_mix]
     simp only [keep_mk,keepE_nil,keepE_cons,look_cons,look_nil,Nat.reduceEqDiff,reduceIte,St.comp,List.map_cons,List.map_nil,V.ren,V.renL,idx,List.getD_cons_zero,List.getD_cons_succ,Nat.reduceBEq,cond_true,cond_false,Option.map_some,Option.getD_some,Nat.reduceAdd,Nat.beq_eq_true_eq]
     all_goals rfl
    ·exact ⟨by show 0≤k / 10;omega,by show k / 10 < 10 ^ m;omega,by show k / 10≤_;omega,by show (strOf [IntKind.u8.wrap (48+k % 10)]++out).size+m≤100;rw [ByteArray.size_append,hs1];omega,by rw [←hR];show markD m (k / 10) _=markD (m+1) k out;rw [markD,if_pos (by omega)]⟩
    ·show m < m+1;omega
   ·intro hc1
    refine zn [3] ⟨?_⟩;refine yR [2] ⟨?_⟩;refine zr ⟨?_⟩
    exact ret_pure rfl (by rw [markT,if_neg (by omega),←hR,markD_stop (by omega)]) (.inl rfl)
def markG {α:Type} (g:Nat→α) (n:Nat):List α:=(List.range n).map g
theorem markG_succ {α:Type} (g:Nat→α) (n:Nat):markG g (n+1)=markG g n++[g n]:=by simp [markG,List.range_succ]
theorem markG_len {α:Type} (g:Nat→α) (n:Nat):(markG g n).length=n:=by simp [markG]
theorem markG_step {α:Type} {g:Nat→α} {l:List α} {i:Nat} {x:α} (h:l[i]? =some x):(markG g i++l.drop i).set i (g i)=markG g (i+1)++l.drop (i+1):=by
  rw [getElem_drop_cons h,markG_succ,List.set_append_right _ _ (by rw [markG_len];omega),markG_len,Nat.sub_self,List.set_cons_zero,List.append_assoc]
  rfl
theorem markG_get {α:Type} {g:Nat→α} {l:List α} {i:Nat} {x:α} (h:l[i]? =some x):(markG g i++l.drop i)[i]? =some x:=by
  rw [List.getElem?_append_right (by rw [markG_len];omega),markG_len,Nat.sub_self,getElem_drop_cons h]
  rfl
theorem markG_all {α:Type} {g:Nat→α} {l:List α} {i:Nat} (h:i≤l.length):(markG g i++l.drop i).length=l.length:=by simp [markG_len];omega
end Go.Proofs.YtaefoaghpehbpaaGreatDoor
