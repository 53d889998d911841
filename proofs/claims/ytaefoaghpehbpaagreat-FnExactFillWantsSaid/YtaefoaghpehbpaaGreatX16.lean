/- What functions compute. No condition. -/
import Derived.Test.YtaefoaghpehbpaaGreatUz
import Derived.Test.YtaefoaghpehbpaaGreatUty
import Derived.Test.YtaefoaghpehbpaaGreatUmG
import Derived.Test.YtaefoaghpehbpaaGreatX14
import Derived.Test.YtaefoaghpehbpaaGreatX12
import Derived.Test.YtaefoaghpehbpaaGreatX13
import Derived.Test.YtaefoaghpehbpaaGreatX15
import Derived.Test.YtaefoaghpehbpaaGreatX7
import Derived.Test.YtaefoaghpehbpaaGreatX9
import Derived.Test.YtaefoaghpehbpaaGreatX10
import Derived.Test.YtaefoaghpehbpaaGreatX8
import Derived.Test.YtaefoaghpehbpaaGreatX3
set_option linter.unusedSimpArgs false
set_option linter.unusedVariables false
set_option linter.defProp false
namespace Go.Proofs.YtaefoaghpehbpaaGreat
open Go Go.Vm
set_option maxHeartbeats 8000000
set_option maxRecDepth 8000 in
theorem rfPut_con (l:List ByteArray) (s:ByteArray) (hl:l.length≤1048576) (hns:s ∉ l):Con Tryz.prog 211 [.sl (l.map V.str),.str s] [] (.ref 0) [.arr ((putS l s).map V.str) .flat]:=by
 have hn1:∀m:Nat,((l.take m).map V.str).all V.noSl=true:=fun m=>by rw [List.all_map,List.all_eq_true];intro a _;rfl
 have hn2:∀m:Nat,((l.drop m).map V.str).all V.noSl=true:=fun m=>by rw [List.all_map,List.all_eq_true];intro a _;rfl
 refine v_con [.tmp 4] [] Tryz.func211 rfl rfl rfl (by simp [Tryz.ntmps211]) ?_
 intro Q0 n0 r0
 simp only [Tryz.ntmps211,envFrom,Nat.reduceAdd]
 have T:=Tys.mk (ai Ty.t3 (ai Ty.t9 Ty.t51))
 have F:=Fc.mk True.intro
 have F:=Fc.mk (ai hn1 hn2)
 refine yR [0,1] ⟨?_⟩;refine yR [0,1,5] ⟨?_⟩;refine v_seq ?_;intros;refine v_block ?_;intros;refine v_loop (fun k=>⟨[(0,.sl (l.map V.str)),(1,.str s),(5,.int .i64 (Nat.cast k))],[],false,45,0⟩) (fun k=>k≤l.length∧k+posS s (l.drop k)=posS s l) (fun k=>l.length - k) 0 ?_ ?_ ?_
 ·refine weak_bothS [0,1,5] [] ⟨?_⟩
  rfl
 ·exact ⟨Nat.zero_le _,by rw [List.drop_zero,Nat.zero_add]⟩
 ·rintro k hok5 Q5 n5 e5 r5
  obtain ⟨hk1,hR⟩:=hok5
  rcases Nat.lt_or_ge k l.length with hkl | hkl
  ·skip
   obtain ⟨x,hx⟩:∃x,l[k]? =some x:=⟨_,List.getElem?_eq_getElem hkl⟩
   have hlt:decide ((k:Int) < (l.length:Int))=true:=decide_eq_true (by omega)
   have hxs:decide (x=s)=false:=decide_eq_false fun e=>hns (e ▸ List.mem_of_getElem? hx)
   have htk:(l.take k).length=k:=by rw [List.length_take];omega
   refine v_seq ?_;intros
   have F:=Fc.mk (ai hn1 (ai hn2 (ai (gdm hx) (ai hlt hxs))))
   refine yR [0,1,5,17] ⟨?_⟩;refine v_condS _ rfl ?_ ?_
   ·intro hc0
    have hps:=posS_step hx (s:=s) hc0
    refine zn [0,1,5] ⟨?_⟩;refine v_block ?_;intros;refine yV ⟨?_⟩;refine n5 _ (k+1) ?_ ?_ ?_
    ·refine weak_bothS [0,1,5] [] ⟨?_⟩
     rfl
    ·exact ⟨hkl,by rw [←hps];exact hR⟩
    ·show _ < _;omega
   ·intro hc0
    have hpk:posS s l=k:=by
     first
     |(have h:=posS_stop hx (s:=s) (by simpa using hc0);omega)
     |(have h:=posS_end (s:=s) hkl;omega)
    have htk2:(l.take k).length=k:=by rw [List.length_take];omega
    have hdk2:(l.drop k).length=l.length - k:=List.length_drop
    have hca0:∀y∈(l.take k).map V.str++[V.str s],y.cells.length=1:=by
     intro y hy
     rcases List.mem_append.1 hy with h | h
     ·obtain ⟨_,_,rfl⟩:=List.mem_map.1 h;rfl
     ·rw [List.mem_singleton] at h;subst h;rfl
    simp only [V.cells] at hca0
    have hca:=eq_true hca0
    refine zn [0,1,5] ⟨?_⟩;refine v_seq ?_;intros
    have F:=Fc.mk (ai hn1 (ai hn2 (ai (gdm hx) (ai hlt (ai hxs (ai htk2 (ai hdk2 hca)))))))
    refine yR [0,1,5,31] ⟨?_⟩;refine v_cond _ rfl ?_ ?_
    ·intro hc1
     exfalso;simp at hc1
    ·intro hc1
     try simp only [zC,reduceCtorEq] at hc1
     refine zn [0,1,5] ⟨?_⟩;refine v_seq ?_;intro Q14 n14 e14 r14;refine v_draw (by kernel_rfl) ?_;intro K15 q15 k15
     show aAny _ _ _ _ 13 (Array.replicate 13 false) _
     refine zdMove q15 true 1 34 ?_;refine zdMove q15 true 2 35 ?_;refine zdSlice q15 true 3 36 ?_;refine zdMove q15 false 5 38 ?_;refine zdMove q15 false 8 41 ?_;refine zdMove q15 false 9 42 ?_;refine aAny_three 0 6 10 rfl rfl rfl (by kernel_rfl) ?_ ?_ ?_
     ·refine zsBuildSlice ⟨?_⟩
      refine aAny_three 4 6 10 rfl rfl rfl (by kernel_rfl) ?_ ?_ ?_
      ·refine zsAppend ⟨?_⟩
       refine aAny_two 6 10 rfl rfl (by kernel_rfl) ?_ ?_
       ·refine zsBuildSlice ⟨?_⟩
        refine aAny_two 7 10 rfl rfl (by kernel_rfl) ?_ ?_
        ·refine zsAppend ⟨?_⟩
         refine zdSlice q15 true 10 43 ?_;refine zoAppend 11 ⟨?_⟩;refine zoAssign 12 ⟨?_⟩;refine aAny_done (by kernel_rfl) ?_;refine k15 _ ?_;refine n14 _ _ (weak_keep [4] _) ?_;refine zq1 ⟨?_⟩
         exact ret_refK rfl rfl (by rw [putS,hpk];simp)
        ·refine zsSlice ⟨?_⟩
         refine zoAppend 7 ⟨?_⟩;refine zoAppend 11 ⟨?_⟩;refine zoAssign 12 ⟨?_⟩;refine aAny_done (by kernel_rfl) ?_;refine k15 _ ?_;refine n14 _ _ (weak_keep [4] _) ?_;refine zq1 ⟨?_⟩
         exact ret_refK rfl rfl (by rw [putS,hpk];simp)
       ·refine zsSlice ⟨?_⟩
        refine zoBuildSlice 6 ⟨?_⟩;refine zoAppend 7 ⟨?_⟩;refine zoAppend 11 ⟨?_⟩;refine zoAssign 12 ⟨?_⟩;refine aAny_done (by kernel_rfl) ?_;refine k15 _ ?_;refine n14 _ _ (weak_keep [4] _) ?_;refine zq1 ⟨?_⟩
        exact ret_refK rfl rfl (by rw [putS,hpk];simp)
      ·refine zsBuildSlice ⟨?_⟩
       refine aAny_two 4 10 rfl rfl (by kernel_rfl) ?_ ?_
       ·refine zsAppend ⟨?_⟩
        refine aAny_two 7 10 rfl rfl (by kernel_rfl) ?_ ?_
        ·refine zsAppend ⟨?_⟩
         refine zdSlice q15 true 10 43 ?_;refine zoAppend 11 ⟨?_⟩;refine zoAssign 12 ⟨?_⟩;refine aAny_done (by kernel_rfl) ?_;refine k15 _ ?_;refine n14 _ _ (weak_keep [4] _) ?_;refine zq1 ⟨?_⟩
         exact ret_refK rfl rfl (by rw [putS,hpk];simp)
        ·refine zsSlice ⟨?_⟩
         refine zoAppend 7 ⟨?_⟩;refine zoAppend 11 ⟨?_⟩;refine zoAssign 12 ⟨?_⟩;refine aAny_done (by kernel_rfl) ?_;refine k15 _ ?_;refine n14 _ _ (weak_keep [4] _) ?_;refine zq1 ⟨?_⟩
         exact ret_refK rfl rfl (by rw [putS,hpk];simp)
       ·refine zsSlice ⟨?_⟩
        refine zoAppend 4 ⟨?_⟩;refine zoAppend 7 ⟨?_⟩;refine zoAppend 11 ⟨?_⟩;refine zoAssign 12 ⟨?_⟩;refine aAny_done (by kernel_rfl) ?_;refine k15 _ ?_;refine n14 _ _ (weak_keep [4] _) ?_;refine zq1 ⟨?_⟩
        exact ret_refK rfl rfl (by rw [putS,hpk];simp)
      ·refine zsSlice ⟨?_⟩
       refine aAny_two 4 6 rfl rfl (by kernel_rfl) ?_ ?_
       ·refine zsAppend ⟨?_⟩
        refine zoBuildSlice 6 ⟨?_⟩;refine zoAppend 7 ⟨?_⟩;refine zoAppend 11 ⟨?_⟩;refine zoAssign 12 ⟨?_⟩;refine aAny_done (by kernel_rfl) ?_;refine k15 _ ?_;refine n14 _ _ (weak_keep [4] _) ?_;refine zq1 ⟨?_⟩
        exact ret_refK rfl rfl (by rw [putS,hpk];simp)
       ·refine zsBuildSlice ⟨?_⟩
        refine zoAppend 4 ⟨?_⟩;refine zoAppend 7 ⟨?_⟩;refine zoAppend 11 ⟨?_⟩;refine zoAssign 12 ⟨?_⟩;refine aAny_done (by kernel_rfl) ?_;refine k15 _ ?_;refine n14 _ _ (weak_keep [4] _) ?_;refine zq1 ⟨?_⟩
        exact ret_refK rfl rfl (by rw [putS,hpk];simp)
     ·refine zsBuildSlice ⟨?_⟩
      refine aAny_two 0 10 rfl rfl (by kernel_rfl) ?_ ?_
      ·refine zsBuildSlice ⟨?_⟩
       refine aAny_two 4 10 rfl rfl (by kernel_rfl) ?_ ?_
       ·refine zsAppend ⟨?_⟩
        refine aAny_two 7 10 rfl rfl (by kernel_rfl) ?_ ?_
        ·refine zsAppend ⟨?_⟩
         refine zdSlice q15 true 10 43 ?_;refine zoAppend 11 ⟨?_⟩;refine zoAssign 12 ⟨?_⟩;refine aAny_done (by kernel_rfl) ?_;refine k15 _ ?_;refine n14 _ _ (weak_keep [4] _) ?_;refine zq1 ⟨?_⟩
         exact ret_refK rfl rfl (by rw [putS,hpk];simp)
        ·refine zsSlice ⟨?_⟩
         refine zoAppend 7 ⟨?_⟩;refine zoAppend 11 ⟨?_⟩;refine zoAssign 12 ⟨?_⟩;refine aAny_done (by kernel_rfl) ?_;refine k15 _ ?_;refine n14 _ _ (weak_keep [4] _) ?_;refine zq1 ⟨?_⟩
         exact ret_refK rfl rfl (by rw [putS,hpk];simp)
       ·refine zsSlice ⟨?_⟩
        refine zoAppend 4 ⟨?_⟩;refine zoAppend 7 ⟨?_⟩;refine zoAppend 11 ⟨?_⟩;refine zoAssign 12 ⟨?_⟩;refine aAny_done (by kernel_rfl) ?_;refine k15 _ ?_;refine n14 _ _ (weak_keep [4] _) ?_;refine zq1 ⟨?_⟩
        exact ret_refK rfl rfl (by rw [putS,hpk];simp)
      ·refine zsSlice ⟨?_⟩
       refine zoBuildSlice 0 ⟨?_⟩;refine zoAppend 4 ⟨?_⟩;refine zoAppend 7 ⟨?_⟩;refine zoAppend 11 ⟨?_⟩;refine zoAssign 12 ⟨?_⟩;refine aAny_done (by kernel_rfl) ?_;refine k15 _ ?_;refine n14 _ _ (weak_keep [4] _) ?_;refine zq1 ⟨?_⟩
       exact ret_refK rfl rfl (by rw [putS,hpk];simp)
     ·refine zsSlice ⟨?_⟩
      refine aAny_two 0 6 rfl rfl (by kernel_rfl) ?_ ?_
      ·refine zsBuildSlice ⟨?_⟩
       refine aAny_two 4 6 rfl rfl (by kernel_rfl) ?_ ?_
       ·refine zsAppend ⟨?_⟩
        refine zoBuildSlice 6 ⟨?_⟩;refine zoAppend 7 ⟨?_⟩;refine zoAppend 11 ⟨?_⟩;refine zoAssign 12 ⟨?_⟩;refine aAny_done (by kernel_rfl) ?_;refine k15 _ ?_;refine n14 _ _ (weak_keep [4] _) ?_;refine zq1 ⟨?_⟩
        exact ret_refK rfl rfl (by rw [putS,hpk];simp)
       ·refine zsBuildSlice ⟨?_⟩
        refine zoAppend 4 ⟨?_⟩;refine zoAppend 7 ⟨?_⟩;refine zoAppend 11 ⟨?_⟩;refine zoAssign 12 ⟨?_⟩;refine aAny_done (by kernel_rfl) ?_;refine k15 _ ?_;refine n14 _ _ (weak_keep [4] _) ?_;refine zq1 ⟨?_⟩
        exact ret_refK rfl rfl (by rw [putS,hpk];simp)
      ·refine zsBuildSlice ⟨?_⟩
       refine zoBuildSlice 0 ⟨?_⟩;refine zoAppend 4 ⟨?_⟩;refine zoAppend 7 ⟨?_⟩;refine zoAppend 11 ⟨?_⟩;refine zoAssign 12 ⟨?_⟩;refine aAny_done (by kernel_rfl) ?_;refine k15 _ ?_;refine n14 _ _ (weak_keep [4] _) ?_;refine zq1 ⟨?_⟩
       exact ret_refK rfl rfl (by rw [putS,hpk];simp)
  ·skip
   have hlt:decide ((k:Int) < (l.length:Int))=false:=decide_eq_false (by omega)
   refine v_seq ?_;intros
   have F:=Fc.mk (ai hn1 (ai hn2 hlt))
   refine yR [0,1,5,17] ⟨?_⟩;refine v_cond _ rfl ?_ ?_
   ·intro hc0
    exfalso;simp at hc0
   ·intro hc0
    try simp only [zC,reduceCtorEq] at hc0
    have hpk:posS s l=k:=by
     first
     |(have h:=posS_stop hx (s:=s) (by simpa using hc0);omega)
     |(have h:=posS_end (s:=s) hkl;omega)
    have htk2:(l.take k).length=k:=by rw [List.length_take];omega
    have hdk2:(l.drop k).length=l.length - k:=List.length_drop
    have hca0:∀y∈(l.take k).map V.str++[V.str s],y.cells.length=1:=by
     intro y hy
     rcases List.mem_append.1 hy with h | h
     ·obtain ⟨_,_,rfl⟩:=List.mem_map.1 h;rfl
     ·rw [List.mem_singleton] at h;subst h;rfl
    simp only [V.cells] at hca0
    have hca:=eq_true hca0
    refine zn [0,1,5] ⟨?_⟩;refine v_seq ?_;intros
    have F:=Fc.mk (ai hn1 (ai hn2 (ai hlt (ai htk2 (ai hdk2 hca)))))
    refine yR [0,1,5,31] ⟨?_⟩;refine v_cond _ rfl ?_ ?_
    ·intro hc1
     exfalso;simp at hc1
    ·intro hc1
     try simp only [zC,reduceCtorEq] at hc1
     refine zn [0,1,5] ⟨?_⟩;refine v_seq ?_;intro Q22 n22 e22 r22;refine v_draw (by kernel_rfl) ?_;intro K23 q23 k23
     show aAny _ _ _ _ 13 (Array.replicate 13 false) _
     refine zdMove q23 true 1 34 ?_;refine zdMove q23 true 2 35 ?_;refine zdSlice q23 true 3 36 ?_;refine zdMove q23 false 5 38 ?_;refine zdMove q23 false 8 41 ?_;refine zdMove q23 false 9 42 ?_;refine aAny_three 0 6 10 rfl rfl rfl (by kernel_rfl) ?_ ?_ ?_
     ·refine zsBuildSlice ⟨?_⟩
      refine aAny_three 4 6 10 rfl rfl rfl (by kernel_rfl) ?_ ?_ ?_
      ·refine zsAppend ⟨?_⟩
       refine aAny_two 6 10 rfl rfl (by kernel_rfl) ?_ ?_
       ·refine zsBuildSlice ⟨?_⟩
        refine aAny_two 7 10 rfl rfl (by kernel_rfl) ?_ ?_
        ·refine zsAppend ⟨?_⟩
         refine zdSlice q23 true 10 43 ?_;refine zoAppend 11 ⟨?_⟩;refine zoAssign 12 ⟨?_⟩;refine aAny_done (by kernel_rfl) ?_;refine k23 _ ?_;refine n22 _ _ (weak_keep [4] _) ?_;refine zq1 ⟨?_⟩
         exact ret_refK rfl rfl (by rw [putS,hpk];simp)
        ·refine zsSlice ⟨?_⟩
         refine zoAppend 7 ⟨?_⟩;refine zoAppend 11 ⟨?_⟩;refine zoAssign 12 ⟨?_⟩;refine aAny_done (by kernel_rfl) ?_;refine k23 _ ?_;refine n22 _ _ (weak_keep [4] _) ?_;refine zq1 ⟨?_⟩
         exact ret_refK rfl rfl (by rw [putS,hpk];simp)
       ·refine zsSlice ⟨?_⟩
        refine zoBuildSlice 6 ⟨?_⟩;refine zoAppend 7 ⟨?_⟩;refine zoAppend 11 ⟨?_⟩;refine zoAssign 12 ⟨?_⟩;refine aAny_done (by kernel_rfl) ?_;refine k23 _ ?_;refine n22 _ _ (weak_keep [4] _) ?_;refine zq1 ⟨?_⟩
        exact ret_refK rfl rfl (by rw [putS,hpk];simp)
      ·refine zsBuildSlice ⟨?_⟩
       refine aAny_two 4 10 rfl rfl (by kernel_rfl) ?_ ?_
       ·refine zsAppend ⟨?_⟩
        refine aAny_two 7 10 rfl rfl (by kernel_rfl) ?_ ?_
        ·refine zsAppend ⟨?_⟩
         refine zdSlice q23 true 10 43 ?_;refine zoAppend 11 ⟨?_⟩;refine zoAssign 12 ⟨?_⟩;refine aAny_done (by kernel_rfl) ?_;refine k23 _ ?_;refine n22 _ _ (weak_keep [4] _) ?_;refine zq1 ⟨?_⟩
         exact ret_refK rfl rfl (by rw [putS,hpk];simp)
        ·refine zsSlice ⟨?_⟩
         refine zoAppend 7 ⟨?_⟩;refine zoAppend 11 ⟨?_⟩;refine zoAssign 12 ⟨?_⟩;refine aAny_done (by kernel_rfl) ?_;refine k23 _ ?_;refine n22 _ _ (weak_keep [4] _) ?_;refine zq1 ⟨?_⟩
         exact ret_refK rfl rfl (by rw [putS,hpk];simp)
       ·refine zsSlice ⟨?_⟩
        refine zoAppend 4 ⟨?_⟩;refine zoAppend 7 ⟨?_⟩;refine zoAppend 11 ⟨?_⟩;refine zoAssign 12 ⟨?_⟩;refine aAny_done (by kernel_rfl) ?_;refine k23 _ ?_;refine n22 _ _ (weak_keep [4] _) ?_;refine zq1 ⟨?_⟩
        exact ret_refK rfl rfl (by rw [putS,hpk];simp)
      ·refine zsSlice ⟨?_⟩
       refine aAny_two 4 6 rfl rfl (by kernel_rfl) ?_ ?_
       ·refine zsAppend ⟨?_⟩
        refine zoBuildSlice 6 ⟨?_⟩;refine zoAppend 7 ⟨?_⟩;refine zoAppend 11 ⟨?_⟩;refine zoAssign 12 ⟨?_⟩;refine aAny_done (by kernel_rfl) ?_;refine k23 _ ?_;refine n22 _ _ (weak_keep [4] _) ?_;refine zq1 ⟨?_⟩
        exact ret_refK rfl rfl (by rw [putS,hpk];simp)
       ·refine zsBuildSlice ⟨?_⟩
        refine zoAppend 4 ⟨?_⟩;refine zoAppend 7 ⟨?_⟩;refine zoAppend 11 ⟨?_⟩;refine zoAssign 12 ⟨?_⟩;refine aAny_done (by kernel_rfl) ?_;refine k23 _ ?_;refine n22 _ _ (weak_keep [4] _) ?_;refine zq1 ⟨?_⟩
        exact ret_refK rfl rfl (by rw [putS,hpk];simp)
     ·refine zsBuildSlice ⟨?_⟩
      refine aAny_two 0 10 rfl rfl (by kernel_rfl) ?_ ?_
      ·refine zsBuildSlice ⟨?_⟩
       refine aAny_two 4 10 rfl rfl (by kernel_rfl) ?_ ?_
       ·refine zsAppend ⟨?_⟩
        refine aAny_two 7 10 rfl rfl (by kernel_rfl) ?_ ?_
        ·refine zsAppend ⟨?_⟩
         refine zdSlice q23 true 10 43 ?_;refine zoAppend 11 ⟨?_⟩;refine zoAssign 12 ⟨?_⟩;refine aAny_done (by kernel_rfl) ?_;refine k23 _ ?_;refine n22 _ _ (weak_keep [4] _) ?_;refine zq1 ⟨?_⟩
         exact ret_refK rfl rfl (by rw [putS,hpk];simp)
        ·refine zsSlice ⟨?_⟩
         refine zoAppend 7 ⟨?_⟩;refine zoAppend 11 ⟨?_⟩;refine zoAssign 12 ⟨?_⟩;refine aAny_done (by kernel_rfl) ?_;refine k23 _ ?_;refine n22 _ _ (weak_keep [4] _) ?_;refine zq1 ⟨?_⟩
         exact ret_refK rfl rfl (by rw [putS,hpk];simp)
       ·refine zsSlice ⟨?_⟩
        refine zoAppend 4 ⟨?_⟩;refine zoAppend 7 ⟨?_⟩;refine zoAppend 11 ⟨?_⟩;refine zoAssign 12 ⟨?_⟩;refine aAny_done (by kernel_rfl) ?_;refine k23 _ ?_;refine n22 _ _ (weak_keep [4] _) ?_;refine zq1 ⟨?_⟩
        exact ret_refK rfl rfl (by rw [putS,hpk];simp)
      ·refine zsSlice ⟨?_⟩
       refine zoBuildSlice 0 ⟨?_⟩;refine zoAppend 4 ⟨?_⟩;refine zoAppend 7 ⟨?_⟩;refine zoAppend 11 ⟨?_⟩;refine zoAssign 12 ⟨?_⟩;refine aAny_done (by kernel_rfl) ?_;refine k23 _ ?_;refine n22 _ _ (weak_keep [4] _) ?_;refine zq1 ⟨?_⟩
       exact ret_refK rfl rfl (by rw [putS,hpk];simp)
     ·refine zsSlice ⟨?_⟩
      refine aAny_two 0 6 rfl rfl (by kernel_rfl) ?_ ?_
      ·refine zsBuildSlice ⟨?_⟩
       refine aAny_two 4 6 rfl rfl (by kernel_rfl) ?_ ?_
       ·refine zsAppend ⟨?_⟩
        refine zoBuildSlice 6 ⟨?_⟩;refine zoAppend 7 ⟨?_⟩;refine zoAppend 11 ⟨?_⟩;refine zoAssign 12 ⟨?_⟩;refine aAny_done (by kernel_rfl) ?_;refine k23 _ ?_;refine n22 _ _ (weak_keep [4] _) ?_;refine zq1 ⟨?_⟩
        exact ret_refK rfl rfl (by rw [putS,hpk];simp)
       ·refine zsBuildSlice ⟨?_⟩
        refine zoAppend 4 ⟨?_⟩;refine zoAppend 7 ⟨?_⟩;refine zoAppend 11 ⟨?_⟩;refine zoAssign 12 ⟨?_⟩;refine aAny_done (by kernel_rfl) ?_;refine k23 _ ?_;refine n22 _ _ (weak_keep [4] _) ?_;refine zq1 ⟨?_⟩
        exact ret_refK rfl rfl (by rw [putS,hpk];simp)
      ·refine zsBuildSlice ⟨?_⟩
       refine zoBuildSlice 0 ⟨?_⟩;refine zoAppend 4 ⟨?_⟩;refine zoAppend 7 ⟨?_⟩;refine zoAppend 11 ⟨?_⟩;refine zoAssign 12 ⟨?_⟩;refine aAny_done (by kernel_rfl) ?_;refine k23 _ ?_;refine n22 _ _ (weak_keep [4] _) ?_;refine zq1 ⟨?_⟩
       exact ret_refK rfl rfl (by rw [putS,hpk];simp)
set_option maxRecDepth 8000 in
theorem ixAdd_con (l:List TI) (k:Nat) (s:ByteArray) (x0:Int) (x1:Int) (x2:Bool) (x3:List ByteArray) (hl:l.length≤1048576) (hli:∀x∈l,x.2.2.2.length≤1048576) (hk:l[k]? =some (x0,x1,x2,x3)) (hns:s ∉ x3):Con Tryz.prog 156 [.sl (l.map (fun t:TI=>V.agg [V.int .i64 t.1,V.int .i64 t.2.1,V.bool t.2.2.1,V.sl (t.2.2.2.map V.str)])),.int .i64 (Nat.cast k),.str s] [] (.ref 0) [.arr ((l.set k (x0,x1,x2,putS x3 s)).map (fun t:TI=>V.agg [V.int .i64 t.1,V.int .i64 t.2.1,V.bool t.2.2.1,V.sl (t.2.2.2.map V.str)])) .deep]:=by
 have hkl:=(List.getElem?_eq_some_iff.1 hk).1
 have hnl:=hli _ (List.mem_of_getElem? hk)
 simp only [] at hnl
 have hfin:(l.map (fun t:TI=>V.agg [V.int .i64 t.1,V.int .i64 t.2.1,V.bool t.2.2.1,V.sl (t.2.2.2.map V.str)])).set k (V.agg [V.int .i64 x0,V.int .i64 x1,V.bool x2,V.sl ((putS x3 s).map V.str)])=(l.set k (x0,x1,x2,putS x3 s)).map (fun t:TI=>V.agg [V.int .i64 t.1,V.int .i64 t.2.1,V.bool t.2.2.1,V.sl (t.2.2.2.map V.str)]):=by have q:=List.map_set (f:=(fun t:TI=>V.agg [V.int .i64 t.1,V.int .i64 t.2.1,V.bool t.2.2.1,V.sl (t.2.2.2.map V.str)])) (l:=l) (i:=k) (a:=(x0,x1,x2,putS x3 s));exact q.symm
 refine v_con [.tmp 6] [] Tryz.func156 rfl rfl rfl (by simp [Tryz.ntmps156]) ?_
 intro Q0 n0 r0
 simp only [Tryz.ntmps156,envFrom,Nat.reduceAdd]
 have T:=Tys.mk (ai Ty.t3 (ai Ty.t4 (ai Ty.t9 (ai Ty.t33 (ai Ty.t51 Ty.t99)))))
 have F:=Fc.mk True.intro
 have F:=Fc.mk (ai @Int.toNat_natCast (ai (gdm hk) hfin))
 refine yR [0,1,2] ⟨?_⟩;refine v_seq ?_;intro Q2 n2 e2 r2;refine yVc (ixOwn_con l hl hli) ⟨?_⟩
 apply n2
 ·apply weak_trans (weak_keep [1,2,7] _)
  simp only [keep_mk,keepE_nil,keepE_cons,look_cons,look_nil,Nat.reduceEqDiff,reduceIte]
  exact weak_trans (weak_fk 1 l.length _ rfl) weak_view
 try simp only [atSlot_cons,atSlot_nil,Nat.reduceEqDiff,reduceIte,List.set_cons_zero,List.set_cons_succ]
 refine yR [1,2,7,8] ⟨?_⟩;refine yRc [1,7,8] (rfPut_con x3 s hnl hns) ⟨?_⟩;refine yR [7] ⟨?_⟩;refine yR [6] ⟨?_⟩;refine zr ⟨?_⟩
 exact rta
set_option maxRecDepth 100000 in
theorem roSend_con (n:Int) (ss:List TS) (fl:List TA) (ins:List TI) (ws:List TW) (k:Nat) (x0:Int) (x1:Int) (x2:Bool) (x3:List ByteArray) (need:List Int) (hS:SendOK n ss fl ins k (x0,x1,x2,x3) need) (hwl:ws.length≤1048576) (hwn:∀x∈ws,x.2.length≤1048576):Con Tryz.prog 84 [.agg [.int .i64 n,.sl (ss.map (fun t:TS=>V.agg [V.int .i64 t.1,V.int .i64 t.2.1,V.int .i64 t.2.2]))],.agg [.sl (fl.map (fun t:TA=>V.agg [V.str t.1,V.int .i64 t.2.1,V.int .i64 t.2.2.1,V.int .i64 t.2.2.2.1,V.int .i64 t.2.2.2.2])),.sl (ins.map (fun t:TI=>V.agg [V.int .i64 t.1,V.int .i64 t.2.1,V.bool t.2.2.1,V.sl (t.2.2.2.map V.str)])),.sl (ws.map (fun t:TW=>V.agg [V.int .i64 t.1,V.sl (t.2.map (V.int .i64))]))],.int .i64 (Nat.cast k),.sl (need.map (V.int .i64))] [] (.tup [.agg [.ref 0,.ref 1,.ref 2],.ref 3,.ref 4]) [.arr ((chF n ss fl x1 need).map (fun t:TA=>V.agg [V.str t.1,V.int .i64 t.2.1,V.int .i64 t.2.2.1,V.int .i64 t.2.2.2.1,V.int .i64 t.2.2.2.2])) .flat,.arr ((addIs k ins (chN n ss fl x1 need)).map (fun t:TI=>V.agg [V.int .i64 t.1,V.int .i64 t.2.1,V.bool t.2.2.1,V.sl (t.2.2.2.map V.str)])) (fillK ins.length),.arr (ws.map (fun t:TW=>V.agg [V.int .i64 t.1,V.sl (t.2.map (V.int .i64))])) (fillK ws.length),.arr ((chN n ss fl x1 need).map V.str) .flat,.arr ((chL n ss fl x1 need).map (V.int .i64)) .flat]:=by
 have hil:=hS.il
 have hfl12:=hS.ds.hfl
 have hkl:=(List.getElem?_eq_some_iff.1 hS.at_).1
 have hin:∀x∈ins,x.2.2.2.length≤1048576:=fun x hx=>Nat.le_trans (hS.nl x hx) (by decide)
 have hnd2:=hS.node
 have hne2:=hS.nd4
 simp only [] at hnd2
 have hcl:=chN_len (node:=x1) (need:=need) hS.ds
 have hco:=ch_len (node:=x1) hS.ds hne2
 have hfk:fillK ins.length=.deep:=by unfold fillK;rw [if_neg (by omega)]
 refine v_con [.cell 8 36,.tmp 9,.tmp 10] [] Tryz.func84 rfl rfl rfl (by simp [Tryz.ntmps84]) ?_
 intro Q0 n0 r0
 simp only [Tryz.ntmps84,envFrom,Nat.reduceAdd]
 have T:=Tys.mk (ai Ty.t3 (ai Ty.t4 (ai Ty.t9 (ai Ty.t32 (ai Ty.t33 (ai Ty.t34 (ai Ty.t36 (ai Ty.t39 (ai Ty.t41 (ai Ty.t51 (ai Ty.t75 (ai Ty.t96 (ai Ty.t99 (ai Ty.t102 Ty.t169))))))))))))))
 have F:=Fc.mk True.intro
 have F:=Fc.mk (ai @Int.toNat_natCast (gdm hS.at_))
 refine yR [2,3,4,5,8] ⟨?_⟩;refine v_seq ?_;intro Q2 n2 e2 r2;refine v_draw (by kernel_rfl) ?_;intro K3 q3 k3
 show aAny _ _ _ _ 18 (Array.replicate 18 false) _
 refine zdLoadX q3 true 0 20 ?_;refine zdFieldAddr q3 true 1 21 ?_;refine zdLoadX q3 true 2 22 ?_;refine zdFieldAddr q3 true 3 23 ?_;refine zdLoadX q3 true 4 24 ?_;refine zdMove q3 true 5 25 ?_;refine zdIndexAddr q3 true 6 26 ?_;refine zdFieldAddr q3 true 7 27 ?_;refine zdLoadX q3 true 8 28 ?_;refine zdMove q3 true 9 29 ?_;refine zoc 10 (dsPick_con n ss fl x1 need hS.ds hnd2 hne2) ⟨?_⟩;refine zdMove q3 true 11 19 ?_;refine zdExtract q3 true 12 31 ?_;refine zdExtract q3 true 13 32 ?_;refine zdExtract q3 true 14 33 ?_;refine zoAssign 15 ⟨?_⟩;refine zoAssign 16 ⟨?_⟩;refine zoAssign 17 ⟨?_⟩;refine aAny_done (by kernel_rfl) ?_;refine k3 _ ?_;refine n2 _ _ (weak_keep [2,5,8,11,12] _) ?_;refine zk ⟨?_⟩;refine yRc [2,5,8,11,12,14] (roOwn_con fl ins ws (by omega) (by omega) hin hwl hwn) ⟨?_⟩;refine yRc [2,8,12,14,15,16] (dsSend_con fl (chO n ss fl x1 need) (by omega) (by omega)) ⟨?_⟩;refine yR [2,8,12,14,16] ⟨?_⟩;refine v_seq ?_;intros;refine yR [2,8,12,14,16,45,46,47] ⟨?_⟩;refine v_block ?_;intros;refine v_loop (fun j=>⟨[(2,.int .i64 (Nat.cast k)),(8,.ptr 3 0 0),(12,.ref 4),(14,.ptr 8 0 0),(16,.ref 9),(45,.ref 9),(46,.int .i64 (chN n ss fl x1 need).length),(47,.int .i64 (Nat.cast j))],[.arr [] .flat,.arr [] .flat,.arr [] .flat,.box (.agg [.ref 0,.ref 1,.ref 2]) .mix,.arr ((chL n ss fl x1 need).map (V.int .i64)) .flat,.arr ((chF n ss fl x1 need).map (fun t:TA=>V.agg [V.str t.1,V.int .i64 t.2.1,V.int .i64 t.2.2.1,V.int .i64 t.2.2.2.1,V.int .i64 t.2.2.2.2])) .flat,.arr ((addIs k ins ((chN n ss fl x1 need).take j)).map (fun t:TI=>V.agg [V.int .i64 t.1,V.int .i64 t.2.1,V.bool t.2.2.1,V.sl (t.2.2.2.map V.str)])) .deep,.arr (ws.map (fun t:TW=>V.agg [V.int .i64 t.1,V.sl (t.2.map (V.int .i64))])) (fillK ws.length),.box (.agg [.ref 5,.ref 6,.ref 7]) .mix,.arr ((chN n ss fl x1 need).map V.str) .flat],false,61,0⟩) (fun j=>j≤(chN n ss fl x1 need).length) (fun j=>(chN n ss fl x1 need).length - j) 0 ?_ ?_ ?_
 ·refine weak_bothN [2,8,12,14,16,45,46,47] [2,3,4,5,9,18,12,13,17,19] ⟨?_⟩
  rw [List.take_zero,addIs_nil hS.at_,hfk];rfl
 ·exact Nat.zero_le _
 ·rintro j hok10 Q10 n10 e10 r10
  have hj1:j≤(chN n ss fl x1 need).length:=hok10
  refine yR [2,8,12,14,16,45,46,47,48] ⟨?_⟩;refine v_seq ?_;intros;refine v_condS _ rfl ?_ ?_
  ·intro hc0
   have hlt:j < (chN n ss fl x1 need).length:=by omega
   obtain ⟨s,hs⟩:∃s,(chN n ss fl x1 need)[j]? =some s:=⟨_,List.getElem?_eq_getElem hlt⟩
   obtain ⟨h1,h2,h3,h4,h5,h6,h7⟩:=send_next hS hs
   refine zn [2,8,12,14,16,45,46,47] ⟨?_⟩;refine v_seq ?_;intros;refine v_block ?_;intros
   have F:=Fc.mk (ai @Int.toNat_natCast (ai (gdm hS.at_) (gdm hs)))
   refine yR [2,8,12,14,16,18,45,46,47] ⟨?_⟩;refine yQc [2,8,12,14,16,45,46,47] (ixAdd_con (addIs k ins ((chN n ss fl x1 need).take j)) k s x0 x1 x2 (putAll x3 ((chN n ss fl x1 need).take j)) (by omega) (fun y hy=>Nat.le_trans (h6 y hy) (by decide)) h4 h1) ⟨?_⟩;refine yV ⟨?_⟩;refine n10 _ (j+1) ?_ ?_ ?_
   ·refine weak_bothN [2,8,12,14,16,45,46,47] [0,1,2,3,4,5,10,7,8,9] ⟨?_⟩
    rw [h7];rfl
   ·exact hlt
   ·show _ < _;omega
  ·intro hc0
   have hje:(chN n ss fl x1 need).take j=(chN n ss fl x1 need):=List.take_of_length_le (by omega)
   refine zn [8,12,14,16] ⟨?_⟩;refine yR [8,9,10] ⟨?_⟩;refine zq3 ⟨?_⟩
   rw [hje,hfk]
   exact rta
theorem nd_sub {α:Type} [DecidableEq α]:∀{l m:List α},l.Nodup→(∀x∈l,x∈m)→l.length≤m.length
  | [],m,_,_=>Nat.zero_le _
  | x::l,m,hn,hs=>by
    have hn':=List.nodup_cons.1 hn
    have hx:=hs x (List.mem_cons_self ..)
    have:=nd_sub (l:=l) (m:=m.erase x) hn'.2 fun y hy=>(List.mem_erase_of_ne (a:=y) (b:=x) (fun e=>hn'.1 (by rw [←e];exact hy))).2 (hs y (List.mem_cons_of_mem _ hy))
    rw [List.length_erase_of_mem hx] at this
    have h0:0 < m.length:=List.length_pos_of_mem hx
    rw [List.length_cons];omega
section
variable {n:Int} {ss:List TS} {fl:List TA} {ins:List TI} {ws:List TW} {need:List Int}
theorem ctl_ds (h:CtlProp n ss fl ins ws):DsFacts n ss fl:=by
  obtain ⟨t1,t2,t3⟩:=town_facts h.town
  refine ⟨t1,t2,t3,h.fl12,fun a ha=> ?_,h.srt⟩
  have:=h.ap a ha
  simp only [apOK,Bool.and_eq_true,decide_eq_true_eq] at this
  exact ⟨this.1.1.1.2,h.has a ha⟩
theorem avail_free (h:CtlProp n ss fl ins ws) {a:TA} (ha:a∈fl) (hv:availB a=true):∀x∈ins,a.1 ∉ x.2.2.2:=by
  intro x hx hs
  have hb:=(h.busy a ha).2 ⟨x,hx,hs⟩
  simp only [availB,Bool.and_eq_true,Bool.or_eq_true,decide_eq_true_eq] at hv
  omega
theorem send_free (h:CtlProp n ss fl ins ws) (hn:need.length=4∧∀v∈need,0≤v∧v≤6) {node:Int} {s:ByteArray} (hs:s∈chN n ss fl node need):∀x∈ins,s ∉ x.2.2.2:=by
  obtain ⟨k,a,h1,h2,rfl⟩:=chN_mem hs
  obtain ⟨k',a',e,h3,_,h4,_⟩:=ch_mem (ctl_ds h) hn h1
  have:k=k':=by omega
  subst this
  rw [h2] at h3;cases h3
  exact avail_free h (List.mem_of_getElem? h2) h4
theorem send_ok (h:CtlProp n ss fl ins ws) {k:Nat} {x:TI} (hk:ins[k]? =some x) (hn:need.length=4∧∀v∈need,0≤v∧v≤6):SendOK n ss fl ins k x need:=by
  have hx:=List.mem_of_getElem? hk
  exact ⟨ctl_ds h,hk,h.node x hx,hn,(h.inc.each x hx).srt,fun s hs=>send_free h hn hs x hx,(h.inc.each x hx).len,h.inc.len,fun y hy=>(h.inc.each y hy).len⟩
theorem called_at (fl:List TA) (order:List Int):∀m i,m≤fl.length→i < m→(calledTo fl order m)[i]? =(fl[i]?).map fun a=>if (i:Int)∈order then calledA a else a
  | 0,i,_,h=>by omega
  | m + 1,i,hm,hi=>by
    have hl:=called_len fl order m (by omega)
    have ha:fl[m]? =some fl[m]:=List.getElem?_eq_getElem (by omega)
    rw [calledTo,ha]
    by_cases e:i < m
    · rw [List.getElem?_append_left (by omega)]
      exact called_at fl order m i (by omega) e
    · have:i=m:=by omega
      subst this
      rw [List.getElem?_append_right (by omega),hl,Nat.sub_self,ha];rfl
theorem chF_at {node:Int} (m:Nat):(chF n ss fl node need)[m]? =(fl[m]?).map fun a=>if (m:Int)∈chO n ss fl node need then calledA a else a:=by
  rcases Nat.lt_or_ge m fl.length with q | q
  · exact called_at fl _ _ m (Nat.le_refl _) q
  · rw [List.getElem?_eq_none (by rw [chF,called_len fl _ _ (Nat.le_refl _)];exact q),List.getElem?_eq_none q];rfl
theorem chF_len {node:Int}:(chF n ss fl node need).length=fl.length:=called_len fl _ _ (Nat.le_refl _)
theorem chF_mem {node:Int} {b:TA} (h:b∈chF n ss fl node need):∃(m:Nat) (a:TA),fl[m]? =some a∧b=if (m:Int)∈chO n ss fl node need then calledA a else a:=by
  obtain ⟨m,hm,rfl⟩:=List.mem_iff_getElem.1 h
  have e:=chF_at (n:=n) (ss:=ss) (fl:=fl) (node:=node) (need:=need) m
  rw [List.getElem?_eq_getElem hm] at e
  have hl:m < fl.length:=by rwa [chF_len] at hm
  rw [List.getElem?_eq_getElem hl] at e
  exact ⟨m,fl[m],List.getElem?_eq_getElem hl,Option.some.inj e⟩
theorem called_name (a:TA) (p:Prop) [Decidable p]:(if p then calledA a else a).1=a.1:=by split<;>rfl
theorem chN_iff (h:CtlProp n ss fl ins ws) {node:Int} {m:Nat} {a:TA} (hm:fl[m]? =some a):a.1∈chN n ss fl node need↔(m:Int)∈chO n ss fl node need:=by
  constructor
  · intro hs
    obtain ⟨k,b,h1,h2,e⟩:=chN_mem hs
    have:k=m:=name_uniq h.srt h2 hm e
    subst this;exact h1
  · intro ho
    have hl:=(List.getElem?_eq_some_iff.1 hm).1
    rw [chN_idx]
    refine List.mem_map.2 ⟨(m:Int),?_,by rw [nameAt,Int.toNat_natCast,hm]⟩
    rw [idxTo,List.mem_filter,decide_eq_true_eq]
    exact ⟨List.mem_map.2 ⟨m,List.mem_range.2 hl,rfl⟩,ho⟩
theorem send_keep (h:CtlProp n ss fl ins ws) {k:Nat} {x:TI} (hk:ins[k]? =some x) (ho:x.2.2.1=false) (hn:need.length=4∧∀v∈need,0≤v∧v≤6):CtlProp n ss (chF n ss fl x.2.1 need) (addIs k ins (chN n ss fl x.2.1 need)) ws:=by
  have hS:=send_ok h hk hn
  have hxm:=List.mem_of_getElem? hk
  have hxi:=h.inc.each x hxm
  have hkl:=(List.getElem?_eq_some_iff.1 hk).1
  obtain ⟨N,hN⟩:∃N,N=chN n ss fl x.2.1 need:=⟨_,rfl⟩
  have hfree:∀s∈N,∀y∈ins,s ∉ y.2.2.2:=fun s hs=>send_free h hn (by rw [←hN];exact hs)
  have hnd:N.Nodup:=by rw [hN];exact chN_nd (ctl_ds h)
  have hNf:∀s∈N,∃a∈fl,a.1=s:=fun s hs=>by
    rw [hN] at hs
    obtain ⟨m,a,_,h2,e⟩:=chN_mem hs
    exact ⟨a,List.mem_of_getElem? h2,e⟩
  rw [←hN,addIs_at hk]
  let x':TI:=(x.1,x.2.1,x.2.2.1,putAll x.2.2.2 N)
  have hsrt:(putAll x.2.2.2 N).Pairwise (fun a b=>strLt a b=true):=putAll_srt hxi.srt hnd fun s hs=>hfree s hs x hxm
  have hin:∀z∈ins.set k x',z=x'∨∃i,i≠k∧ins[i]? =some z:=fun z hz=>mem_set hz
  have hmem:x'∈ins.set k x':=List.mem_iff_getElem.2 ⟨k,by rw [List.length_set];exact hkl,List.getElem_set_self ..⟩
  have hold:∀i z,i≠k→ins[i]? =some z→z∈ins.set k x':=fun i z q hi=>List.mem_of_getElem? (by rw [List.getElem?_set_ne (fun e=>q e.symm)];exact hi)
  have hfl:∀s,(∃a∈fl,a.1=s)→∃b∈chF n ss fl x.2.1 need,b.1=s:=by
    rintro s ⟨a,ha,rfl⟩
    obtain ⟨m,hm,rfl⟩:=List.mem_iff_getElem.1 ha
    have e:=chF_at (n:=n) (ss:=ss) (fl:=fl) (node:=x.2.1) (need:=need) m
    rw [List.getElem?_eq_getElem hm] at e
    exact ⟨_,List.mem_of_getElem? e,called_name ..⟩
  have hxl:∀s∈putAll x.2.2.2 N,∃a∈fl,a.1=s:=fun s hs=>(putAll_mem.1 hs).elim (h.names x hxm s) (hNf s)
  have hpl:(putAll x.2.2.2 N).length≤12:=by
    have h1:(putAll x.2.2.2 N).Nodup:=hsrt.imp fun q=>strLt_ne q
    have h2:=nd_sub h1 (m:=fl.map (·.1)) fun s hs=>by
      obtain ⟨a,ha,e⟩:=hxl s hs
      exact List.mem_map.2 ⟨a,ha,e⟩
    rw [List.length_map] at h2
    exact Nat.le_trans h2 h.fl12
  refine ⟨h.town,fun b hb=> ?_,?_,by rw [chF_len];exact h.fl12,fun b hb=> ?_,⟨fun z hz=> ?_,set_pair h.inc.num hk (fun z q=>q) (fun z q=>q),?_,by rw [List.length_set];exact h.inc.len⟩,h.ws8,fun z hz=> ?_,fun z hz s hs=> ?_,fun b hb=> ?_,fun w hw=> ?_,h.wsrt⟩
  · obtain ⟨m,a,hm,rfl⟩:=chF_mem hb
    have ha:=h.ap a (List.mem_of_getElem? hm)
    split
    · show apOK (a.1,a.2.1,a.2.2.1,a.2.2.2.1,1)=true
      simp only [apOK,Bool.and_eq_true,decide_eq_true_eq] at ha⊢
      exact ⟨ha.1,by omega⟩
    · exact ha
  · refine List.pairwise_iff_getElem.2 fun i j hi hj hij=> ?_
    have hp:=List.pairwise_iff_getElem.1 h.srt
    rw [chF_len] at hi hj
    have e1:=chF_at (n:=n) (ss:=ss) (fl:=fl) (node:=x.2.1) (need:=need) i
    have e2:=chF_at (n:=n) (ss:=ss) (fl:=fl) (node:=x.2.1) (need:=need) j
    rw [List.getElem?_eq_getElem hi,List.getElem?_eq_getElem (by rw [chF_len];exact hi)] at e1
    rw [List.getElem?_eq_getElem hj,List.getElem?_eq_getElem (by rw [chF_len];exact hj)] at e2
    rw [Option.some.inj e1,Option.some.inj e2,called_name,called_name]
    exact hp i j hi hj hij
  · obtain ⟨m,a,hm,rfl⟩:=chF_mem hb
    have:=h.has a (List.mem_of_getElem? hm)
    split<;>exact this
  · rcases hin z hz with rfl | ⟨i,_,hi⟩
    · have hcl:x'.2.2.1=true→x'.2.2.2=[]:=fun q=>by rw [show x'.2.2.1=x.2.2.1 from rfl,ho] at q;cases q
      have hnm:∀s∈x'.2.2.2,nameB s=true:=by
        intro s hs
        rcases putAll_mem.1 hs with q | q
        · exact hxi.nm s q
        · obtain ⟨a,ha,rfl⟩:=hNf s q
          have:=h.ap a ha
          simp only [apOK,Bool.and_eq_true] at this
          exact this.1.1.1.1
      exact ⟨hxi.num,hxi.node,hpl,hcl,hnm,hsrt⟩
    · exact h.inc.each z (List.mem_of_getElem? hi)
  · refine List.pairwise_iff_getElem.2 fun i j hi hj hij=> ?_
    rw [List.length_set] at hi hj
    have hp:=List.pairwise_iff_getElem.1 h.inc.dis
    have hxk:ins[k]=x:=(List.getElem?_eq_some_iff.1 hk).2
    rw [List.getElem_set,List.getElem_set]
    by_cases e1:k=i
    · subst e1
      rw [if_pos rfl,if_neg (by omega)]
      intro s hs q
      rcases putAll_mem.1 q with q | q
      · have:=hp k j hi hj hij s hs;rw [hxk] at this;exact this q
      · exact hfree s q _ (List.getElem_mem hj) hs
    · rw [if_neg e1]
      by_cases e2:k=j
      · subst e2
        rw [if_pos rfl]
        intro s hs q
        rcases putAll_mem.1 hs with z | z
        · exact hp i k hi hj hij s (by rw [hxk];exact z) q
        · exact hfree s z _ (List.getElem_mem hi) q
      · rw [if_neg e2];exact hp i j hi hj hij
  · rcases hin z hz with rfl | ⟨i,_,hi⟩
    · exact h.node x hxm
    · exact h.node z (List.mem_of_getElem? hi)
  · rcases hin z hz with rfl | ⟨i,_,hi⟩
    · exact hfl s (hxl s hs)
    · exact hfl s (h.names z (List.mem_of_getElem? hi) s hs)
  · obtain ⟨m,a,hm,rfl⟩:=chF_mem hb
    have ham:=List.mem_of_getElem? hm
    have hiff:=chN_iff h (node:=x.2.1) (need:=need) hm
    rw [←hN] at hiff
    rw [called_name]
    by_cases hc:(m:Int)∈chO n ss fl x.2.1 need
    · rw [if_pos hc]
      exact ⟨fun _=>⟨x',hmem,putAll_mem.2 (.inr (hiff.2 hc))⟩,fun _=>by simp [calledA]⟩
    · rw [if_neg hc,h.busy a ham]
      constructor
      · rintro ⟨y,hy,hs⟩
        obtain ⟨i,hi,rfl⟩:=List.mem_iff_getElem.1 hy
        by_cases e:i=k
        · subst e
          refine ⟨x',hmem,putAll_mem.2 (.inl ?_)⟩
          rwa [(List.getElem?_eq_some_iff.1 hk).2] at hs
        · exact ⟨ins[i],hold i _ e (List.getElem?_eq_getElem hi),hs⟩
      · rintro ⟨y,hy,hs⟩
        rcases hin y hy with rfl | ⟨i,_,hi⟩
        · rcases putAll_mem.1 hs with q | q
          · exact ⟨x,hxm,q⟩
          · exact absurd (hiff.1 q) hc
        · exact ⟨y,List.mem_of_getElem? hi,hs⟩
  · obtain ⟨⟨y,hy,e1,e2⟩,hr⟩:=h.want w hw
    refine ⟨?_,hr⟩
    obtain ⟨i,hi,rfl⟩:=List.mem_iff_getElem.1 hy
    by_cases e:i=k
    · subst e
      refine ⟨x',hmem,?_,?_⟩
      · rw [←e1,(List.getElem?_eq_some_iff.1 hk).2]
      · exact ho
    · exact ⟨ins[i],hold i _ e (List.getElem?_eq_getElem hi),e1,e2⟩
end
theorem firstP_set {α:Type} {p:α→Bool}:∀{l:List α} {i k:Nat} {x y:α},l[k]? =some x→p x=p y→firstP p i (l.set k y)=firstP p i l
  | a::l,i,0,x,y,h,e=>by
    simp only [List.getElem?_cons_zero,Option.some.injEq] at h
    subst h
    rw [List.set_cons_zero,firstP,firstP,e]
  | a::l,i,k+1,x,y,h,e=>by
    rw [List.set_cons_succ,firstP,firstP,firstP_set (l:=l) (by simpa using h) e]
theorem addIs_open {k:Nat} {ins:List TI} {x:TI} (h:ins[k]? =some x) (N:List ByteArray) (m:Int):openF (addIs k ins N) m=openF ins m:=by
  rw [addIs_at h]
  exact firstP_set h rfl
theorem ctl_nil {n:Int} {ss:List TS} {fl:List TA} {ins:List TI} {ws:List TW} (h:CtlProp n ss fl ins ws):CtlProp n ss fl ins []:=
  ⟨h.town,h.ap,h.srt,h.fl12,h.has,h.inc,Nat.zero_le _,h.node,h.names,h.busy,(fun _ hw=>nomatch hw),List.Pairwise.nil⟩
abbrev FillT:=List TA×List TI×List TW×List ByteArray
def fillOne (n:Int) (ss:List TS) (st:FillT) (w:TW):FillT:=match st.2.1[(openF st.2.1 w.1).toNat]? with
  | some x=>(chF n ss st.1 x.2.1 w.2,addIs (openF st.2.1 w.1).toNat st.2.1 (chN n ss st.1 x.2.1 w.2),(if (chL n ss st.1 x.2.1 w.2).all (fun x:Int=>inR x 0 0)=true then st.2.2.1 else st.2.2.1++[(w.1,chL n ss st.1 x.2.1 w.2)]),st.2.2.2++chN n ss st.1 x.2.1 w.2)
  | none=>st
def fillTo (n:Int) (ss:List TS) (fl:List TA) (ins:List TI) (ws:List TW) (i:Nat):FillT:=(ws.take i).foldl (fillOne n ss) (fl,ins,[],[])
theorem fillTo_step {n:Int} {ss:List TS} {fl:List TA} {ins:List TI} {ws:List TW} {i:Nat} {w:TW} (h:ws[i]? =some w):fillTo n ss fl ins ws (i+1)=fillOne n ss (fillTo n ss fl ins ws i) w:=by
  rw [fillTo,List.take_add_one,h,List.foldl_append];rfl
structure FillInv (n:Int) (ss:List TS) (ins:List TI) (i:Nat) (st:FillT):Prop where
  ctl:CtlProp n ss st.1 st.2.1 []
  len:st.2.1.length=ins.length
  opn:∀m,openF st.2.1 m=openF ins m
  nl:st.2.2.2.length≤12 * i
  wl:st.2.2.1.length≤i
  w4:∀w∈st.2.2.1,w.2.length=4
theorem chL_facts {n:Int} {ss:List TS} {fl:List TA} {node:Int} {need:List Int} (hn:need.length=4∧∀v∈need,0≤v∧v≤6):(chL n ss fl node need).length=4∧∀v∈chL n ss fl node need,0≤v∧v≤6:=by
  have h:=pick_facts (fl:=fl) hn (readyL fl (tmL n ss node))
  exact ⟨h.1,h.2.1⟩
theorem fill_first {n:Int} {ss:List TS} {fl:List TA} {ins:List TI} {ws:List TW} (h:CtlProp n ss fl ins ws):FillInv n ss ins 0 (fillTo n ss fl ins ws 0):=
  ⟨ctl_nil h,rfl,fun _=>rfl,Nat.le_refl _,Nat.le_refl _,fun _ hw=>nomatch hw⟩
theorem fill_next {n:Int} {ss:List TS} {fl:List TA} {ins:List TI} {ws:List TW} (h:CtlProp n ss fl ins ws) {i:Nat} {w:TW} (hw:ws[i]? =some w) {st:FillT} (hst:st=fillTo n ss fl ins ws i) (hi:FillInv n ss ins i st) :
    ∃ (k:Nat) (x:TI),openF ins w.1=(k:Int)∧openF st.2.1 w.1=(k:Int)∧SendOK n ss st.1 st.2.1 k x w.2∧(w.2.length=4∧∀v∈w.2,0≤v∧v≤6)∧
      fillTo n ss fl ins ws (i+1)=(chF n ss st.1 x.2.1 w.2,addIs k st.2.1 (chN n ss st.1 x.2.1 w.2),(if (chL n ss st.1 x.2.1 w.2).all (fun x:Int=>inR x 0 0)=true then st.2.2.1 else st.2.2.1++[(w.1,chL n ss st.1 x.2.1 w.2)]),st.2.2.2++chN n ss st.1 x.2.1 w.2)∧
      FillInv n ss ins (i+1) (fillTo n ss fl ins ws (i+1)):=by
  obtain ⟨⟨y,hy,e1,e2⟩,hr⟩:=h.want w (List.mem_of_getElem? hw)
  rw [realNeed,Bool.and_eq_true] at hr
  have hn:=need4_facts hr.1
  have hop:0≤openF ins w.1:=(openF_iff _ _).2 ⟨y,hy,e1,e2⟩
  have hop2:0≤openF st.2.1 w.1:=by rw [hi.opn];exact hop
  obtain ⟨k,x,hx,⟨hx1,hx2⟩,hk⟩:=openF_at hop2
  have hk0:openF ins w.1=(k:Int):=by rw [←hi.opn];exact hk
  have hS:=send_ok hi.ctl hx hn
  have hfs:=fillTo_step (n:=n) (ss:=ss) (fl:=fl) (ins:=ins) hw
  rw [←hst,fillOne,hk,Int.toNat_natCast,hx] at hfs
  simp only at hfs
  have hcl:=chL_facts (n:=n) (ss:=ss) (fl:=st.1) (node:=x.2.1) hn
  refine ⟨k,x,hk0,hk,hS,hn,hfs,?_⟩
  rw [hfs]
  refine ⟨send_keep hi.ctl hx hx2 hn,?_,fun m=> ?_,?_,?_,fun z hz=> ?_⟩
  · show (addIs k st.2.1 _).length=_
    rw [addIs_len];exact hi.len
  · show openF (addIs k st.2.1 _) m=_
    rw [addIs_open hx];exact hi.opn m
  · show (st.2.2.2++_).length≤_
    have:=chN_len (node:=x.2.1) (need:=w.2) hS.ds
    have:=hi.nl
    rw [List.length_append];omega
  · show (if _ then _ else _:List TW).length≤_
    have:=hi.wl
    split
    · omega
    · rw [List.length_append,List.length_singleton];omega
  · have hz':z∈(if (chL n ss st.1 x.2.1 w.2).all (fun x:Int=>inR x 0 0)=true then st.2.2.1 else st.2.2.1++[(w.1,chL n ss st.1 x.2.1 w.2)]):=hz
    split at hz'
    · exact hi.w4 z hz'
    · rcases List.mem_append.1 hz' with q | q
      · exact hi.w4 z q
      · rw [List.mem_singleton] at q;subst q;exact hcl.1
theorem most_nn:∀(l:List Int) (a:Int),0≤a→0≤mostL l a
  | [],a,h=>h
  | y::l,a,h=>by
    show 0≤mostL l (if y > a then y else a)
    refine most_nn l _ ?_
    split<;>omega
theorem need4_is {l:List Int} (h:l.length=4∧∀v∈l,0≤v∧v≤6):need4 l=true:=by
  simp only [need4,Bool.and_eq_true,decide_eq_true_eq,List.all_eq_true,inR]
  exact ⟨by omega,h.2⟩
theorem max_pos {x:Int} {l:List Int} (h:need4 (x::l)=true):(0 < mostL l x)↔(x::l).all (fun x:Int=>inR x 0 0)=false:=by
  have h1:=max_zero h
  have h2:=most_nn l x ((need4_facts h).2 x (List.mem_cons_self ..)).1
  rw [←h1,decide_eq_false_iff_not]
  omega
set_option maxRecDepth 100000 in
theorem specFill2_con (n:Int) (ss:List TS) (fl:List TA) (ins:List TI) (ws:List TW) (hs:ss.length≤1048576) (hl:fl.length≤1048576) (hls:∀t∈fl,t.1.size≤9223372036854775807) (hil:ins.length≤1048576) (hin:∀x∈ins,x.2.2.2.length≤1048576) (his:∀x∈ins,∀s∈x.2.2.2,s.size≤9223372036854775807) (hwl:ws.length≤1048576) (hwn:∀x∈ws,x.2.length≤1048576):Con Tryz.prog 21 [.agg [.int .i64 n,.sl (ss.map (fun t:TS=>V.agg [V.int .i64 t.1,V.int .i64 t.2.1,V.int .i64 t.2.2]))],.agg [.sl (fl.map (fun t:TA=>V.agg [V.str t.1,V.int .i64 t.2.1,V.int .i64 t.2.2.1,V.int .i64 t.2.2.2.1,V.int .i64 t.2.2.2.2])),.sl (ins.map (fun t:TI=>V.agg [V.int .i64 t.1,V.int .i64 t.2.1,V.bool t.2.2.1,V.sl (t.2.2.2.map V.str)])),.sl (ws.map (fun t:TW=>V.agg [V.int .i64 t.1,V.sl (t.2.map (V.int .i64))]))]] [] (.tup [.agg [.ref 0,.ref 1,.ref 2],.ref 3,.bool (ctlB n ss fl ins ws)]) [.arr ((orNil (ctlB n ss fl ins ws) (fillTo n ss fl ins ws ws.length).1).map (fun t:TA=>V.agg [V.str t.1,V.int .i64 t.2.1,V.int .i64 t.2.2.1,V.int .i64 t.2.2.2.1,V.int .i64 t.2.2.2.2])) .flat,.arr ((orNil (ctlB n ss fl ins ws) (fillTo n ss fl ins ws ws.length).2.1).map (fun t:TI=>V.agg [V.int .i64 t.1,V.int .i64 t.2.1,V.bool t.2.2.1,V.sl (t.2.2.2.map V.str)])) (fillK (orNil (ctlB n ss fl ins ws) (fillTo n ss fl ins ws ws.length).2.1).length),.arr ((orNil (ctlB n ss fl ins ws) (fillTo n ss fl ins ws ws.length).2.2.1).map (fun t:TW=>V.agg [V.int .i64 t.1,V.sl (t.2.map (V.int .i64))])) (fillK (orNil (ctlB n ss fl ins ws) (fillTo n ss fl ins ws ws.length).2.2.1).length),.arr ((orNil (ctlB n ss fl ins ws) (fillTo n ss fl ins ws ws.length).2.2.2).map V.str) .flat]:=by
 refine v_con [.cell 4 36,.tmp 5,.tmp 6] [] Tryz.func21 rfl rfl rfl (by simp [Tryz.ntmps21]) ?_
 intro Q0 n0 r0
 simp only [Tryz.ntmps21,envFrom,Nat.reduceAdd]
 have T:=Tys.mk (ai Ty.t3 (ai Ty.t4 (ai Ty.t9 (ai Ty.t32 (ai Ty.t33 (ai Ty.t34 (ai Ty.t36 (ai Ty.t39 (ai Ty.t41 (ai Ty.t51 (ai Ty.t75 (ai Ty.t96 (ai Ty.t99 (ai Ty.t102 Ty.t169))))))))))))))
 have F:=Fc.mk True.intro
 refine yR [2,3,4] ⟨?_⟩;refine v_seq ?_;intros;refine yRc [2,3,4,17] (roGood_con n ss fl ins ws hs hl hls hil hin his hwl hwn) ⟨?_⟩;refine v_condS _ rfl ?_ ?_
 ·intro hc0
  have hB:(ctlB n ss fl ins ws)=false:=by
   cases hq:(ctlB n ss fl ins ws) with
   |false=>rfl
   |true=>simp [hq] at hc0
  refine yR [4,5,6] ⟨?_⟩;refine zq3 ⟨?_⟩
  simp only [hB,orNil_f,List.map_nil,List.length_nil,fillK_0]
  exact rta
 ·intro hc0
  have hB:(ctlB n ss fl ins ws)=true:=by
   cases hq:(ctlB n ss fl ins ws) with
   |true=>rfl
   |false=>simp [hq] at hc0
  have hc:=ctl_facts hB
  have hp:=(ctl_iff n ss fl ins ws).1 hB
  refine zn [2,3,4] ⟨?_⟩;refine yRc [2,3,4,7] (roOwn_con fl ins ws hl hil hin hwl hwn) ⟨?_⟩;refine yR [2,3,4,7] ⟨?_⟩;refine yR [2,3,4,7,8] ⟨?_⟩;refine v_seq ?_;intros;refine yR [2,3,4,7,8,23,24,25] ⟨?_⟩;refine v_block ?_;intros;refine v_loop (fun i=>⟨[(2,.ptr 0 0 0),(3,.ptr 1 0 0),(4,.ptr 5 0 0),(7,.ptr 9 0 0),(8,.ref 10),(23,.sl (ws.map (fun t:TW=>V.agg [V.int .i64 t.1,V.sl (t.2.map (V.int .i64))]))),(24,.int .i64 ws.length),(25,.int .i64 (Nat.cast i))],[.box (.agg [.int .i64 n,.sl (ss.map (fun t:TS=>V.agg [V.int .i64 t.1,V.int .i64 t.2.1,V.int .i64 t.2.2]))]) .shal,.box (.agg [.sl (fl.map (fun t:TA=>V.agg [V.str t.1,V.int .i64 t.2.1,V.int .i64 t.2.2.1,V.int .i64 t.2.2.2.1,V.int .i64 t.2.2.2.2])),.sl (ins.map (fun t:TI=>V.agg [V.int .i64 t.1,V.int .i64 t.2.1,V.bool t.2.2.1,V.sl (t.2.2.2.map V.str)])),.sl (ws.map (fun t:TW=>V.agg [V.int .i64 t.1,V.sl (t.2.map (V.int .i64))]))]) .shal,.arr [] .flat,.arr [] .flat,.arr [] .flat,.box (.agg [.ref 2,.ref 3,.ref 4]) .mix,.arr ((fillTo n ss fl ins ws i).1.map (fun t:TA=>V.agg [V.str t.1,V.int .i64 t.2.1,V.int .i64 t.2.2.1,V.int .i64 t.2.2.2.1,V.int .i64 t.2.2.2.2])) .flat,.arr ((fillTo n ss fl ins ws i).2.1.map (fun t:TI=>V.agg [V.int .i64 t.1,V.int .i64 t.2.1,V.bool t.2.2.1,V.sl (t.2.2.2.map V.str)])) (fillK (fillTo n ss fl ins ws i).2.1.length),.arr ((fillTo n ss fl ins ws i).2.2.1.map (fun t:TW=>V.agg [V.int .i64 t.1,V.sl (t.2.map (V.int .i64))])) (fillK (fillTo n ss fl ins ws i).2.2.1.length),.box (.agg [.ref 6,.ref 7,.ref 8]) .mix,.arr ((fillTo n ss fl ins ws i).2.2.2.map V.str) .flat],false,62,0⟩) (fun i=>i≤ws.length∧FillInv n ss ins i (fillTo n ss fl ins ws i)) (fun i=>ws.length - i) 0 ?_ ?_ ?_
  ·refine weak_bothN [2,3,4,7,8,23,24,25] [0,1,2,3,4,5,7,8,14,13,15] ⟨?_⟩
   rfl
  ·exact ⟨Nat.zero_le _,fill_first hp⟩
  ·rintro i hok12 Q12 n12 e12 r12
   obtain ⟨hi1,hI⟩:=hok12
   refine yR [2,3,4,7,8,23,24,25,26] ⟨?_⟩;refine v_seq ?_;intros;refine v_condS _ rfl ?_ ?_
   ·intro hc1
    have hlt:i < ws.length:=by omega
    obtain ⟨⟨x0,x1⟩,hx⟩:∃x:TW,ws[i]? =some x:=⟨ws[i]'(by omega),List.getElem?_eq_getElem (by omega)⟩
    obtain ⟨k,⟨y0,y1,y2,y3⟩,hk0,hk1,hS,hn4,hfs,hnx⟩:=fill_next hp hx (st:=(fillTo n ss fl ins ws i)) rfl hI
    simp only [] at hk0 hk1 hn4 hfs
    obtain ⟨st,hst⟩:∃st,st=(fillTo n ss fl ins ws i):=⟨_,rfl⟩
    have hI2:=hI
    rw [←hst] at hI2 hS hk1 hfs
    have hcl4:=(chL_facts (n:=n) (ss:=ss) (fl:=st.1) (node:=y1) hn4).1
    have hcn:=chN_len (node:=y1) (need:=x1) hS.ds
    have hnl:=hI2.nl
    have hwl2:=hI2.wl
    have hln:=hI2.len
    have hws8:=hp.ws8
    have hf1:chF n ss st.1 y1 x1=(fillTo n ss fl ins ws (i+1)).1:=by rw [hfs]
    have hf2:addIs k st.2.1 (chN n ss st.1 y1 x1)=(fillTo n ss fl ins ws (i+1)).2.1:=by rw [hfs]
    have hf4:st.2.2.2.map V.str++(chN n ss st.1 y1 x1).map V.str=(fillTo n ss fl ins ws (i+1)).2.2.2.map V.str:=by rw [←List.map_append,hfs]
    have hli:st.2.1.length=(fillTo n ss fl ins ws (i+1)).2.1.length:=by rw [hln,hnx.len]
    rw [←hst]
    refine zn [2,3,4,7,8,23,24,25] ⟨?_⟩;refine v_seq ?_;intros;refine v_block ?_;intros
    have F:=Fc.mk (ai (gdm hx) (ai hk0 hcl4))
    refine yR [2,3,4,7,8,10,23,24,25] ⟨?_⟩
    apply v_seq1
    ·intro Q19 n19 e19 r19
     refine v_draw (by kernel_rfl) ?_;intro K20 q20 k20
     show aAny _ _ _ _ 18 (Array.replicate 18 false) _
     refine zdLoadX q20 true 0 30 ?_;refine zdLoadX q20 true 1 31 ?_;refine zdFieldAddr q20 true 2 32 ?_;refine zdLoadX q20 true 3 33 ?_;refine zdFieldAddr q20 true 4 34 ?_;refine zdLoadX q20 true 5 35 ?_;refine zdFieldAddr q20 true 7 37 ?_;refine zdLoadX q20 true 8 38 ?_;refine aAny_two 6 14 rfl rfl (by kernel_rfl) ?_ ?_
     ·refine zsc (ixFind_con ins x0 hil) ⟨?_⟩
      refine aAny_two 9 14 rfl rfl (by kernel_rfl) ?_ ?_
      ·refine zsc (roSend_con n ss st.1 st.2.1 st.2.2.1 k y0 y1 y2 y3 x1 hS (by omega) (fun w hw=>by rw [hI2.w4 w hw];decide)) ⟨?_⟩
       refine zdMove q20 true 10 29 ?_;refine zdExtract q20 true 11 40 ?_;refine zdExtract q20 false 12 41 ?_;refine zdExtract q20 false 13 42 ?_;refine zoAlloc 14 ⟨?_⟩;refine zoStore 15 ⟨?_⟩;refine zoAssign 16 ⟨?_⟩;refine zoAssign 17 ⟨?_⟩;refine aAny_done (by kernel_rfl) ?_;refine k20 _ ?_;refine n19 _ ?_
       exact weak_one [2,3,4,7,8,10,11,12,13,23,24,25] [0,1,2,3,4,5,6,7,8,9,10,11,12,13,14,15,16,17,18,19,20,21]
      ·refine zsAlloc ⟨?_⟩
       refine zoc 9 (roSend_con n ss st.1 st.2.1 st.2.2.1 k y0 y1 y2 y3 x1 hS (by omega) (fun w hw=>by rw [hI2.w4 w hw];decide)) ⟨?_⟩;refine zdMove q20 true 10 29 ?_;refine zdExtract q20 true 11 40 ?_;refine zdExtract q20 false 12 41 ?_;refine zdExtract q20 false 13 42 ?_;refine zoStore 15 ⟨?_⟩;refine zoAssign 16 ⟨?_⟩;refine zoAssign 17 ⟨?_⟩;refine aAny_done (by kernel_rfl) ?_;refine k20 _ ?_;refine n19 _ ?_
       exact weak_same [2,3,4,7,8,10,11,12,13,23,24,25] [0,1,2,3,4,5,6,7,8,9,10,11,12,17,18,19,20,21,13,14,15,16]
     ·refine zsAlloc ⟨?_⟩
      refine zoc 6 (ixFind_con ins x0 hil) ⟨?_⟩;refine zoc 9 (roSend_con n ss st.1 st.2.1 st.2.2.1 k y0 y1 y2 y3 x1 hS (by omega) (fun w hw=>by rw [hI2.w4 w hw];decide)) ⟨?_⟩;refine zdMove q20 true 10 29 ?_;refine zdExtract q20 true 11 40 ?_;refine zdExtract q20 false 12 41 ?_;refine zdExtract q20 false 13 42 ?_;refine zoStore 15 ⟨?_⟩;refine zoAssign 16 ⟨?_⟩;refine zoAssign 17 ⟨?_⟩;refine aAny_done (by kernel_rfl) ?_;refine k20 _ ?_;refine n19 _ ?_
      exact weak_same [2,3,4,7,8,10,11,12,13,23,24,25] [0,1,2,3,4,5,6,7,8,9,10,11,12,17,18,19,20,21,13,14,15,16]
    ·refine zkm ⟨?_⟩
     have F:=Fc.mk (ai (gdm hx) (ai hk0 hcl4))
     refine yR [2,3,4,7,8,10,12,13,23,24,25] ⟨?_⟩;refine yR [2,3,4,7,8,10,13,23,24,25] ⟨?_⟩;refine yRc [2,3,4,7,8,10,13,23,24,25,49] (l1All_con (chL n ss st.1 y1 x1) 0 0 (by omega)) ⟨?_⟩;refine v_condS _ rfl ?_ ?_
     ·intro hc2
      have hf3:(fillTo n ss fl ins ws (i+1)).2.2.1=st.2.2.1++[(x0,chL n ss st.1 y1 x1)]:=by rw [hfs];simp [hc2]
      have hsn:st.2.2.1.map (fun t:TW=>V.agg [V.int .i64 t.1,V.sl (t.2.map (V.int .i64))])++[V.agg [V.int .i64 x0,V.sl ((chL n ss st.1 y1 x1).map (V.int .i64))]]=(fillTo n ss fl ins ws (i+1)).2.2.1.map (fun t:TW=>V.agg [V.int .i64 t.1,V.sl (t.2.map (V.int .i64))]):=by rw [hf3,List.map_append];rfl
      have hkd:st.2.2.1.length+1=(fillTo n ss fl ins ws (i+1)).2.2.1.length:=by rw [hf3,List.length_append];rfl
      refine yQ [2,3,4,7,8,23,24,25] ⟨?_⟩;refine yV ⟨?_⟩;refine n12 _ (i+1) ?_ ?_ ?_
      ·refine weak_bothN [2,3,4,7,8,23,24,25] [0,1,2,3,4,5,13,14,24,9,22] ⟨?_⟩
       rw [hf1,hf2,hsn,hf4,hli,hkd];rfl
      ·exact ⟨hlt,hnx⟩
      ·show _ < _;omega
     ·intro hc2
      have hf3:st.2.2.1=(fillTo n ss fl ins ws (i+1)).2.2.1:=by rw [hfs];simp [hc2]
      refine zn [2,3,4,7,8,23,24,25] ⟨?_⟩;refine yV ⟨?_⟩;refine n12 _ (i+1) ?_ ?_ ?_
      ·refine weak_bothN [2,3,4,7,8,23,24,25] [0,1,2,3,4,5,13,14,15,9,22] ⟨?_⟩
       rw [hf1,hf2,hf3,hf4,hli];rfl
      ·exact ⟨hlt,hnx⟩
      ·show _ < _;omega
   ·intro hc1
    have hie:i=ws.length:=by omega
    subst hie
    refine zn [4,7,8] ⟨?_⟩;refine yR [4,5,6] ⟨?_⟩;refine zq3 ⟨?_⟩
    simp only [hB,orNil_t]
    exact rta
end Go.Proofs.YtaefoaghpehbpaaGreat
