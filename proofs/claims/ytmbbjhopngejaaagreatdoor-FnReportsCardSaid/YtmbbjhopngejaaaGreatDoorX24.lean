/- What functions compute. No condition. -/
import Derived.Test.YtmbbjhopngejaaaGreatDoorX23
set_option linter.unusedSimpArgs false
set_option linter.unusedVariables false
set_option linter.defProp false
namespace Go.Proofs.YtmbbjhopngejaaaGreatDoor
open Go Go.Vm
set_option maxHeartbeats 8000000
set_option maxRecDepth 8000 in
theorem f3r (l:List ByteArray) (s:ByteArray) (hl:l.length≤1048576) (hns:s ∉ l):Con Tryz.prog 195 [.sl (l.map V.str),.str s] [] (.ref 0) [.arr ((b7t l s).map V.str) .flat]:=by
 have hn1:∀m:Nat,((l.take m).map V.str).all V.noSl=true:=fun m=>by rw [List.all_map,qlf];intro a _;rfl
 have hn2:∀m:Nat,((l.drop m).map V.str).all V.noSl=true:=fun m=>by rw [List.all_map,qlf];intro a _;rfl
 refine zcn [.tmp 4] [] Tryz.func195 Tryz.ntmps195 ⟨?_⟩;intro Q0 n0 r0;have T:=tq3 Ty.t3 Ty.t9 Ty.t32;have F:=Fc.mk True.intro;have F:=fq2 hn1 hn2;refine yR [0,1] ⟨?_⟩;refine yR [0,1,5] ⟨?_⟩;refine b0e ?_;intros;refine b0i ?_;intros;refine b08 (fun k=>⟨[(0,.sl (l.map V.str)),(1,.str s),(5,.int .i64 (Nat.cast k))],[],false,45,0⟩) (fun k=>k≤l.length∧k+d19 s (l.drop k)=d19 s l) (fun k=>l.length - k) 0 ?_ ?_ ?_
 ·refine b0d [0,1,5] [] ⟨?_⟩;rfl
 ·exact ⟨qle _,by rw [List.drop_zero,Nat.zero_add]⟩
 ·rintro k hok5 Q5 n5 e5 r5;obtain ⟨hk1,hR⟩:=hok5;rcases qmf k l.length with hkl | hkl
  ·skip;obtain ⟨x,hx⟩:∃x,l[k]? =some x:=⟨_,qla hkl⟩;have hlt:decide ((k:Int) < (l.length:Int))=true:=decide_eq_true (by omega);have hxs:decide (x=s)=false:=decide_eq_false fun e=>hns (e ▸ qlb hx)
   have htk:(l.take k).length=k:=by rw [qlr];omega
   refine b0e ?_;intros;have F:=fq5 hn1 hn2 (gdm hx) hlt hxs;refine yR [0,1,5,17] ⟨?_⟩;refine b0a _ rfl ?_ ?_
   ·intro hc0;have hps:=f2h hx (s:=s) hc0;refine zn [0,1,5] ⟨?_⟩;refine b0i ?_;intros;refine yV ⟨?_⟩;refine n5 _ (k+1) ?_ ?_ ?_
    ·refine b0d [0,1,5] [] ⟨?_⟩;rfl
    ·exact ⟨hkl,by rw [←hps];exact hR⟩
    ·show _ < _;omega
   ·intro hc0;have hpk:d19 s l=k:=by
     first
     |(have h:=d4s hx (s:=s) (by simpa using hc0);omega)
     |(have h:=d7g (s:=s) hkl;omega)
    have htk2:(l.take k).length=k:=by rw [qlr];omega
    have hdk2:(l.drop k).length=l.length - k:=List.length_drop;have hca0:∀y∈(l.take k).map V.str++[V.str s],y.cells.length=1:=by
     intro y hy;rcases qlj.1 hy with h | h
     ·obtain ⟨_,_,rfl⟩:=qmo.1 h;rfl
     ·rw [qlk] at h;subst h;rfl
    simp only [V.cells] at hca0;have hca:=eq_true hca0;refine zn [0,1,5] ⟨?_⟩;refine b0e ?_;intros;have F:=fq8 hn1 hn2 (gdm hx) hlt hxs htk2 hdk2 hca;refine yR [0,1,5,31] ⟨?_⟩;refine b18 _ rfl ?_ ?_
    ·intro hc1;exfalso;simp at hc1
    ·intro hc1;try simp only [zC,reduceCtorEq] at hc1
     refine zn [0,1,5] ⟨?_⟩;refine b0e ?_;intro Q14 n14 e14 r14;refine b1f (by kernel_rfl) ?_;intro K15 q15 k15;show b1r _ _ _ _ 13 (Array.replicate 13 false) _;refine b0t q15 true 1 34 ?_;refine b0t q15 true 2 35 ?_;refine b5t q15 true 3 36 ?_;refine b0t q15 false 5 38 ?_;refine b0t q15 false 8 41 ?_;refine b0t q15 false 9 42 ?_;refine b49 0 6 10 rfl rfl rfl (by kernel_rfl) ?_ ?_ ?_
     ·refine b01 ⟨?_⟩;refine b49 4 6 10 rfl rfl rfl (by kernel_rfl) ?_ ?_ ?_
      ·refine b16 ⟨?_⟩;refine b09 6 10 rfl rfl (by kernel_rfl) ?_ ?_
       ·refine b01 ⟨?_⟩;refine b09 7 10 rfl rfl (by kernel_rfl) ?_ ?_
        ·refine b16 ⟨?_⟩;refine b5t q15 true 10 43 ?_;refine b0m 11 ⟨?_⟩;refine b0p 12 ⟨?_⟩;refine b0b (by kernel_rfl) ?_;refine k15 _ ?_;refine n14 _ _ (b0f [4] _) ?_;refine zq2 ⟨?_⟩;exact b1t rfl rfl (by rw [b7t,hpk];simp)
        ·refine b33 ⟨?_⟩;refine b0m 7 ⟨?_⟩;refine b0m 11 ⟨?_⟩;refine b0p 12 ⟨?_⟩;refine b0b (by kernel_rfl) ?_;refine k15 _ ?_;refine n14 _ _ (b0f [4] _) ?_;refine zq2 ⟨?_⟩;exact b1t rfl rfl (by rw [b7t,hpk];simp)
       ·refine b33 ⟨?_⟩;refine b1j 6 ⟨?_⟩;refine b0m 7 ⟨?_⟩;refine b0m 11 ⟨?_⟩;refine b0p 12 ⟨?_⟩;refine b0b (by kernel_rfl) ?_;refine k15 _ ?_;refine n14 _ _ (b0f [4] _) ?_;refine zq2 ⟨?_⟩;exact b1t rfl rfl (by rw [b7t,hpk];simp)
      ·refine b01 ⟨?_⟩;refine b09 4 10 rfl rfl (by kernel_rfl) ?_ ?_
       ·refine b16 ⟨?_⟩;refine b09 7 10 rfl rfl (by kernel_rfl) ?_ ?_
        ·refine b16 ⟨?_⟩;refine b5t q15 true 10 43 ?_;refine b0m 11 ⟨?_⟩;refine b0p 12 ⟨?_⟩;refine b0b (by kernel_rfl) ?_;refine k15 _ ?_;refine n14 _ _ (b0f [4] _) ?_;refine zq2 ⟨?_⟩;exact b1t rfl rfl (by rw [b7t,hpk];simp)
        ·refine b33 ⟨?_⟩;refine b0m 7 ⟨?_⟩;refine b0m 11 ⟨?_⟩;refine b0p 12 ⟨?_⟩;refine b0b (by kernel_rfl) ?_;refine k15 _ ?_;refine n14 _ _ (b0f [4] _) ?_;refine zq2 ⟨?_⟩;exact b1t rfl rfl (by rw [b7t,hpk];simp)
       ·refine b33 ⟨?_⟩;refine b0m 4 ⟨?_⟩;refine b0m 7 ⟨?_⟩;refine b0m 11 ⟨?_⟩;refine b0p 12 ⟨?_⟩;refine b0b (by kernel_rfl) ?_;refine k15 _ ?_;refine n14 _ _ (b0f [4] _) ?_;refine zq2 ⟨?_⟩;exact b1t rfl rfl (by rw [b7t,hpk];simp)
      ·refine b33 ⟨?_⟩;refine b09 4 6 rfl rfl (by kernel_rfl) ?_ ?_
       ·refine b16 ⟨?_⟩;refine b1j 6 ⟨?_⟩;refine b0m 7 ⟨?_⟩;refine b0m 11 ⟨?_⟩;refine b0p 12 ⟨?_⟩;refine b0b (by kernel_rfl) ?_;refine k15 _ ?_;refine n14 _ _ (b0f [4] _) ?_;refine zq2 ⟨?_⟩;exact b1t rfl rfl (by rw [b7t,hpk];simp)
       ·refine b01 ⟨?_⟩;refine b0m 4 ⟨?_⟩;refine b0m 7 ⟨?_⟩;refine b0m 11 ⟨?_⟩;refine b0p 12 ⟨?_⟩;refine b0b (by kernel_rfl) ?_;refine k15 _ ?_;refine n14 _ _ (b0f [4] _) ?_;refine zq2 ⟨?_⟩;exact b1t rfl rfl (by rw [b7t,hpk];simp)
     ·refine b01 ⟨?_⟩;refine b09 0 10 rfl rfl (by kernel_rfl) ?_ ?_
      ·refine b01 ⟨?_⟩;refine b09 4 10 rfl rfl (by kernel_rfl) ?_ ?_
       ·refine b16 ⟨?_⟩;refine b09 7 10 rfl rfl (by kernel_rfl) ?_ ?_
        ·refine b16 ⟨?_⟩;refine b5t q15 true 10 43 ?_;refine b0m 11 ⟨?_⟩;refine b0p 12 ⟨?_⟩;refine b0b (by kernel_rfl) ?_;refine k15 _ ?_;refine n14 _ _ (b0f [4] _) ?_;refine zq2 ⟨?_⟩;exact b1t rfl rfl (by rw [b7t,hpk];simp)
        ·refine b33 ⟨?_⟩;refine b0m 7 ⟨?_⟩;refine b0m 11 ⟨?_⟩;refine b0p 12 ⟨?_⟩;refine b0b (by kernel_rfl) ?_;refine k15 _ ?_;refine n14 _ _ (b0f [4] _) ?_;refine zq2 ⟨?_⟩;exact b1t rfl rfl (by rw [b7t,hpk];simp)
       ·refine b33 ⟨?_⟩;refine b0m 4 ⟨?_⟩;refine b0m 7 ⟨?_⟩;refine b0m 11 ⟨?_⟩;refine b0p 12 ⟨?_⟩;refine b0b (by kernel_rfl) ?_;refine k15 _ ?_;refine n14 _ _ (b0f [4] _) ?_;refine zq2 ⟨?_⟩;exact b1t rfl rfl (by rw [b7t,hpk];simp)
      ·refine b33 ⟨?_⟩;refine b1j 0 ⟨?_⟩;refine b0m 4 ⟨?_⟩;refine b0m 7 ⟨?_⟩;refine b0m 11 ⟨?_⟩;refine b0p 12 ⟨?_⟩;refine b0b (by kernel_rfl) ?_;refine k15 _ ?_;refine n14 _ _ (b0f [4] _) ?_;refine zq2 ⟨?_⟩;exact b1t rfl rfl (by rw [b7t,hpk];simp)
     ·refine b33 ⟨?_⟩;refine b09 0 6 rfl rfl (by kernel_rfl) ?_ ?_
      ·refine b01 ⟨?_⟩;refine b09 4 6 rfl rfl (by kernel_rfl) ?_ ?_
       ·refine b16 ⟨?_⟩;refine b1j 6 ⟨?_⟩;refine b0m 7 ⟨?_⟩;refine b0m 11 ⟨?_⟩;refine b0p 12 ⟨?_⟩;refine b0b (by kernel_rfl) ?_;refine k15 _ ?_;refine n14 _ _ (b0f [4] _) ?_;refine zq2 ⟨?_⟩;exact b1t rfl rfl (by rw [b7t,hpk];simp)
       ·refine b01 ⟨?_⟩;refine b0m 4 ⟨?_⟩;refine b0m 7 ⟨?_⟩;refine b0m 11 ⟨?_⟩;refine b0p 12 ⟨?_⟩;refine b0b (by kernel_rfl) ?_;refine k15 _ ?_;refine n14 _ _ (b0f [4] _) ?_;refine zq2 ⟨?_⟩;exact b1t rfl rfl (by rw [b7t,hpk];simp)
      ·refine b01 ⟨?_⟩;refine b1j 0 ⟨?_⟩;refine b0m 4 ⟨?_⟩;refine b0m 7 ⟨?_⟩;refine b0m 11 ⟨?_⟩;refine b0p 12 ⟨?_⟩;refine b0b (by kernel_rfl) ?_;refine k15 _ ?_;refine n14 _ _ (b0f [4] _) ?_;refine zq2 ⟨?_⟩;exact b1t rfl rfl (by rw [b7t,hpk];simp)
  ·skip;have hlt:decide ((k:Int) < (l.length:Int))=false:=decide_eq_false (by omega);refine b0e ?_;intros;have F:=fq3 hn1 hn2 hlt;refine yR [0,1,5,17] ⟨?_⟩;refine b18 _ rfl ?_ ?_
   ·intro hc0;exfalso;simp at hc0
   ·intro hc0;try simp only [zC,reduceCtorEq] at hc0
    have hpk:d19 s l=k:=by
     first
     |(have h:=d4s hx (s:=s) (by simpa using hc0);omega)
     |(have h:=d7g (s:=s) hkl;omega)
    have htk2:(l.take k).length=k:=by rw [qlr];omega
    have hdk2:(l.drop k).length=l.length - k:=List.length_drop;have hca0:∀y∈(l.take k).map V.str++[V.str s],y.cells.length=1:=by
     intro y hy;rcases qlj.1 hy with h | h
     ·obtain ⟨_,_,rfl⟩:=qmo.1 h;rfl
     ·rw [qlk] at h;subst h;rfl
    simp only [V.cells] at hca0;have hca:=eq_true hca0;refine zn [0,1,5] ⟨?_⟩;refine b0e ?_;intros;have F:=fq6 hn1 hn2 hlt htk2 hdk2 hca;refine yR [0,1,5,31] ⟨?_⟩;refine b18 _ rfl ?_ ?_
    ·intro hc1;exfalso;simp at hc1
    ·intro hc1;try simp only [zC,reduceCtorEq] at hc1
     refine zn [0,1,5] ⟨?_⟩;refine b0e ?_;intro Q22 n22 e22 r22;refine b1f (by kernel_rfl) ?_;intro K23 q23 k23;show b1r _ _ _ _ 13 (Array.replicate 13 false) _;refine b0t q23 true 1 34 ?_;refine b0t q23 true 2 35 ?_;refine b5t q23 true 3 36 ?_;refine b0t q23 false 5 38 ?_;refine b0t q23 false 8 41 ?_;refine b0t q23 false 9 42 ?_;refine b49 0 6 10 rfl rfl rfl (by kernel_rfl) ?_ ?_ ?_
     ·refine b01 ⟨?_⟩;refine b49 4 6 10 rfl rfl rfl (by kernel_rfl) ?_ ?_ ?_
      ·refine b16 ⟨?_⟩;refine b09 6 10 rfl rfl (by kernel_rfl) ?_ ?_
       ·refine b01 ⟨?_⟩;refine b09 7 10 rfl rfl (by kernel_rfl) ?_ ?_
        ·refine b16 ⟨?_⟩;refine b5t q23 true 10 43 ?_;refine b0m 11 ⟨?_⟩;refine b0p 12 ⟨?_⟩;refine b0b (by kernel_rfl) ?_;refine k23 _ ?_;refine n22 _ _ (b0f [4] _) ?_;refine zq2 ⟨?_⟩;exact b1t rfl rfl (by rw [b7t,hpk];simp)
        ·refine b33 ⟨?_⟩;refine b0m 7 ⟨?_⟩;refine b0m 11 ⟨?_⟩;refine b0p 12 ⟨?_⟩;refine b0b (by kernel_rfl) ?_;refine k23 _ ?_;refine n22 _ _ (b0f [4] _) ?_;refine zq2 ⟨?_⟩;exact b1t rfl rfl (by rw [b7t,hpk];simp)
       ·refine b33 ⟨?_⟩;refine b1j 6 ⟨?_⟩;refine b0m 7 ⟨?_⟩;refine b0m 11 ⟨?_⟩;refine b0p 12 ⟨?_⟩;refine b0b (by kernel_rfl) ?_;refine k23 _ ?_;refine n22 _ _ (b0f [4] _) ?_;refine zq2 ⟨?_⟩;exact b1t rfl rfl (by rw [b7t,hpk];simp)
      ·refine b01 ⟨?_⟩;refine b09 4 10 rfl rfl (by kernel_rfl) ?_ ?_
       ·refine b16 ⟨?_⟩;refine b09 7 10 rfl rfl (by kernel_rfl) ?_ ?_
        ·refine b16 ⟨?_⟩;refine b5t q23 true 10 43 ?_;refine b0m 11 ⟨?_⟩;refine b0p 12 ⟨?_⟩;refine b0b (by kernel_rfl) ?_;refine k23 _ ?_;refine n22 _ _ (b0f [4] _) ?_;refine zq2 ⟨?_⟩;exact b1t rfl rfl (by rw [b7t,hpk];simp)
        ·refine b33 ⟨?_⟩;refine b0m 7 ⟨?_⟩;refine b0m 11 ⟨?_⟩;refine b0p 12 ⟨?_⟩;refine b0b (by kernel_rfl) ?_;refine k23 _ ?_;refine n22 _ _ (b0f [4] _) ?_;refine zq2 ⟨?_⟩;exact b1t rfl rfl (by rw [b7t,hpk];simp)
       ·refine b33 ⟨?_⟩;refine b0m 4 ⟨?_⟩;refine b0m 7 ⟨?_⟩;refine b0m 11 ⟨?_⟩;refine b0p 12 ⟨?_⟩;refine b0b (by kernel_rfl) ?_;refine k23 _ ?_;refine n22 _ _ (b0f [4] _) ?_;refine zq2 ⟨?_⟩;exact b1t rfl rfl (by rw [b7t,hpk];simp)
      ·refine b33 ⟨?_⟩;refine b09 4 6 rfl rfl (by kernel_rfl) ?_ ?_
       ·refine b16 ⟨?_⟩;refine b1j 6 ⟨?_⟩;refine b0m 7 ⟨?_⟩;refine b0m 11 ⟨?_⟩;refine b0p 12 ⟨?_⟩;refine b0b (by kernel_rfl) ?_;refine k23 _ ?_;refine n22 _ _ (b0f [4] _) ?_;refine zq2 ⟨?_⟩;exact b1t rfl rfl (by rw [b7t,hpk];simp)
       ·refine b01 ⟨?_⟩;refine b0m 4 ⟨?_⟩;refine b0m 7 ⟨?_⟩;refine b0m 11 ⟨?_⟩;refine b0p 12 ⟨?_⟩;refine b0b (by kernel_rfl) ?_;refine k23 _ ?_;refine n22 _ _ (b0f [4] _) ?_;refine zq2 ⟨?_⟩;exact b1t rfl rfl (by rw [b7t,hpk];simp)
     ·refine b01 ⟨?_⟩;refine b09 0 10 rfl rfl (by kernel_rfl) ?_ ?_
      ·refine b01 ⟨?_⟩;refine b09 4 10 rfl rfl (by kernel_rfl) ?_ ?_
       ·refine b16 ⟨?_⟩;refine b09 7 10 rfl rfl (by kernel_rfl) ?_ ?_
        ·refine b16 ⟨?_⟩;refine b5t q23 true 10 43 ?_;refine b0m 11 ⟨?_⟩;refine b0p 12 ⟨?_⟩;refine b0b (by kernel_rfl) ?_;refine k23 _ ?_;refine n22 _ _ (b0f [4] _) ?_;refine zq2 ⟨?_⟩;exact b1t rfl rfl (by rw [b7t,hpk];simp)
        ·refine b33 ⟨?_⟩;refine b0m 7 ⟨?_⟩;refine b0m 11 ⟨?_⟩;refine b0p 12 ⟨?_⟩;refine b0b (by kernel_rfl) ?_;refine k23 _ ?_;refine n22 _ _ (b0f [4] _) ?_;refine zq2 ⟨?_⟩;exact b1t rfl rfl (by rw [b7t,hpk];simp)
       ·refine b33 ⟨?_⟩;refine b0m 4 ⟨?_⟩;refine b0m 7 ⟨?_⟩;refine b0m 11 ⟨?_⟩;refine b0p 12 ⟨?_⟩;refine b0b (by kernel_rfl) ?_;refine k23 _ ?_;refine n22 _ _ (b0f [4] _) ?_;refine zq2 ⟨?_⟩;exact b1t rfl rfl (by rw [b7t,hpk];simp)
      ·refine b33 ⟨?_⟩;refine b1j 0 ⟨?_⟩;refine b0m 4 ⟨?_⟩;refine b0m 7 ⟨?_⟩;refine b0m 11 ⟨?_⟩;refine b0p 12 ⟨?_⟩;refine b0b (by kernel_rfl) ?_;refine k23 _ ?_;refine n22 _ _ (b0f [4] _) ?_;refine zq2 ⟨?_⟩;exact b1t rfl rfl (by rw [b7t,hpk];simp)
     ·refine b33 ⟨?_⟩;refine b09 0 6 rfl rfl (by kernel_rfl) ?_ ?_
      ·refine b01 ⟨?_⟩;refine b09 4 6 rfl rfl (by kernel_rfl) ?_ ?_
       ·refine b16 ⟨?_⟩;refine b1j 6 ⟨?_⟩;refine b0m 7 ⟨?_⟩;refine b0m 11 ⟨?_⟩;refine b0p 12 ⟨?_⟩;refine b0b (by kernel_rfl) ?_;refine k23 _ ?_;refine n22 _ _ (b0f [4] _) ?_;refine zq2 ⟨?_⟩;exact b1t rfl rfl (by rw [b7t,hpk];simp)
       ·refine b01 ⟨?_⟩;refine b0m 4 ⟨?_⟩;refine b0m 7 ⟨?_⟩;refine b0m 11 ⟨?_⟩;refine b0p 12 ⟨?_⟩;refine b0b (by kernel_rfl) ?_;refine k23 _ ?_;refine n22 _ _ (b0f [4] _) ?_;refine zq2 ⟨?_⟩;exact b1t rfl rfl (by rw [b7t,hpk];simp)
      ·refine b01 ⟨?_⟩;refine b1j 0 ⟨?_⟩;refine b0m 4 ⟨?_⟩;refine b0m 7 ⟨?_⟩;refine b0m 11 ⟨?_⟩;refine b0p 12 ⟨?_⟩;refine b0b (by kernel_rfl) ?_;refine k23 _ ?_;refine n22 _ _ (b0f [4] _) ?_;refine zq2 ⟨?_⟩;exact b1t rfl rfl (by rw [b7t,hpk];simp)
set_option maxRecDepth 8000 in
theorem f3c (l:List TI) (k:Nat) (s:ByteArray) (x0:Int) (x1:Int) (x2:Bool) (x3:List ByteArray) (hl:l.length≤1048576) (hli:∀x∈l,x.2.2.2.length≤1048576) (hk:l[k]? =some (x0,x1,x2,x3)) (hns:s ∉ x3):Con Tryz.prog 172 [sQ rQb l,.int .i64 (Nat.cast k),.str s] [] (.ref 0) [.arr ((l.set k (x0,x1,x2,b7t x3 s)).map rQb) .deep]:=by
 have hkl:=(qlc.1 hk).1;have hnl:=hli _ (qlb hk);simp only [] at hnl;have hfin:(l.map rQb).set k (V.agg [V.int .i64 x0,V.int .i64 x1,V.bool x2,V.sl ((b7t x3 s).map V.str)])=(l.set k (x0,x1,x2,b7t x3 s)).map rQb:=by have q:=qmn (f:=rQb) (l:=l) (i:=k) (a:=(x0,x1,x2,b7t x3 s));exact q.symm
 refine zcn [.tmp 6] [] Tryz.func172 Tryz.ntmps172 ⟨?_⟩;intro Q0 n0 r0;have T:=tq6 Ty.t3 Ty.t4 Ty.t9 Ty.t28 Ty.t32 Ty.t55;have F:=Fc.mk True.intro;have F:=fq3 @qli (gdm hk) hfin;refine yR [0,1,2] ⟨?_⟩;refine b0e ?_;intro Q2 n2 e2 r2;refine yVc (b3v l hl hli) ⟨?_⟩;apply n2
 ·apply b00 (b0f [1,2,7] _);simp only [b02,b0n,b0l,b0j,b0u,Nat.reduceEqDiff,reduceIte];exact b00 (d13 1 l.length _ rfl) c33
 try simp only [b2f,b2q,Nat.reduceEqDiff,reduceIte,List.set_cons_zero,List.set_cons_succ]
 refine yR [1,2,7,8] ⟨?_⟩;refine yRc [1,7,8] (f3r x3 s hnl hns) ⟨?_⟩;refine yR [7] ⟨?_⟩;refine yR [6] ⟨?_⟩;refine zr ⟨?_⟩;exact rta
set_option maxRecDepth 100000 in
theorem d9p (n:Int) (ss:List TS) (fl:List TA) (ins:List TI) (ws:List TW) (k:Nat) (x0:Int) (x1:Int) (x2:Bool) (x3:List ByteArray) (need:List Int) (hS:SendOK n ss fl ins k (x0,x1,x2,x3) need) (hwl:ws.length≤1048576) (hwn:∀x∈ws,x.2.length≤1048576):Con Tryz.prog 138 [tQ n ss,kQ fl ins ws,.int .i64 (Nat.cast k),.sl (need.map (V.int .i64))] [] (.tup [.agg [.ref 0,.ref 1,.ref 2],.ref 3,.ref 4]) [aQ rQa (chF n ss fl x1 need),.arr ((b9y k ins (chN n ss fl x1 need)).map rQb) (b2h ins.length),fQ rQc ws,.arr ((chN n ss fl x1 need).map V.str) .flat,.arr ((chL n ss fl x1 need).map (V.int .i64)) .flat]:=by
 have hil:=hS.il;have hfl12:=hS.ds.hfl;have hkl:=(qlc.1 hS.at_).1;have hin:∀x∈ins,x.2.2.2.length≤1048576:=fun x hx=>ql6 (hS.nl x hx) (by decide)
 have hnd2:=hS.node;have hne2:=hS.nd4;simp only [] at hnd2;have hcl:=f3u (node:=x1) (need:=need) hS.ds;have hco:=f71 (node:=x1) hS.ds hne2;have hfk:b2h ins.length=.deep:=by unfold b2h;rw [if_neg (by omega)]
 refine zcn [.cell 8 31,.tmp 9,.tmp 10] [] Tryz.func138 Tryz.ntmps138 ⟨?_⟩;intro Q0 n0 r0;have T:=Tys.mk (ai Ty.t3 (ai Ty.t4 (ai Ty.t9 (ai Ty.t24 (ai Ty.t26 (ai Ty.t27 (ai Ty.t28 (ai Ty.t29 (ai Ty.t31 (ai Ty.t32 (ai Ty.t35 (ai Ty.t53 (ai Ty.t55 (ai Ty.t91 Ty.t127))))))))))))));have F:=Fc.mk True.intro;have F:=fq2 @qli (gdm hS.at_);refine yR [2,3,4,5,8] ⟨?_⟩;refine b0e ?_;intro Q2 n2 e2 r2;refine b1f (by kernel_rfl) ?_;intro K3 q3 k3;show b1r _ _ _ _ 18 (Array.replicate 18 false) _;refine b1i q3 true 0 20 ?_;refine b0h q3 true 1 21 ?_;refine b1i q3 true 2 22 ?_;refine b0h q3 true 3 23 ?_;refine b1i q3 true 4 24 ?_;refine b0t q3 true 5 25 ?_;refine b1z q3 true 6 26 ?_;refine b0h q3 true 7 27 ?_;refine b1i q3 true 8 28 ?_;refine b0t q3 true 9 29 ?_;refine zoc 10 (f0n n ss fl x1 need hS.ds hnd2 hne2) ⟨?_⟩;refine b0t q3 true 11 19 ?_;refine b2j q3 true 12 31 ?_;refine b2j q3 true 13 32 ?_;refine b2j q3 true 14 33 ?_;refine b0p 15 ⟨?_⟩;refine b0p 16 ⟨?_⟩;refine b0p 17 ⟨?_⟩;refine b0b (by kernel_rfl) ?_;refine k3 _ ?_;refine n2 _ _ (b0f [2,5,8,11,12] _) ?_;refine zk ⟨?_⟩;refine yRc [2,5,8,11,12,14] (c1a fl ins ws (by omega) (by omega) hin hwl hwn) ⟨?_⟩;refine yRc [2,8,12,14,15,16] (d84 fl (chO n ss fl x1 need) (by omega) (by omega)) ⟨?_⟩;refine yR [2,8,12,14,16] ⟨?_⟩;refine b0e ?_;intros;refine yR [2,8,12,14,16,45,46,47] ⟨?_⟩;refine b0i ?_;intros;refine b08 (fun j=>⟨[(2,.int .i64 (Nat.cast k)),(8,.ptr 3 0 0),(12,.ref 4),(14,.ptr 8 0 0),(16,.ref 9),(45,.ref 9),(46,.int .i64 (chN n ss fl x1 need).length),(47,.int .i64 (Nat.cast j))],[eQ,eQ,eQ,bQ 0 1 2,.arr ((chL n ss fl x1 need).map (V.int .i64)) .flat,aQ rQa (chF n ss fl x1 need),.arr ((b9y k ins ((chN n ss fl x1 need).take j)).map rQb) .deep,fQ rQc ws,bQ 5 6 7,.arr ((chN n ss fl x1 need).map V.str) .flat],false,61,0⟩) (fun j=>j≤(chN n ss fl x1 need).length) (fun j=>(chN n ss fl x1 need).length - j) 0 ?_ ?_ ?_
 ·refine b1o [2,8,12,14,16,45,46,47] [2,3,4,5,9,18,12,13,17,19] ⟨?_⟩;rw [qml,f1l hS.at_,hfk];rfl
 ·exact qle _
 ·rintro j hok10 Q10 n10 e10 r10;have hj1:j≤(chN n ss fl x1 need).length:=hok10;refine yR [2,8,12,14,16,45,46,47,48] ⟨?_⟩;refine b0e ?_;intros;refine b0a _ rfl ?_ ?_
  ·intro hc0;have hlt:j < (chN n ss fl x1 need).length:=by omega
   obtain ⟨s,hs⟩:∃s,(chN n ss fl x1 need)[j]? =some s:=⟨_,qla hlt⟩;obtain ⟨h1,h2,h3,h4,h5,h6,h7⟩:=f3w hS hs;refine zn [2,8,12,14,16,45,46,47] ⟨?_⟩;refine b0e ?_;intros;refine b0i ?_;intros;have F:=fq3 @qli (gdm hS.at_) (gdm hs);refine yR [2,8,12,14,16,18,45,46,47] ⟨?_⟩;refine yQc [2,8,12,14,16,45,46,47] (f3c (b9y k ins ((chN n ss fl x1 need).take j)) k s x0 x1 x2 (b4k x3 ((chN n ss fl x1 need).take j)) (by omega) (fun y hy=>ql6 (h6 y hy) (by decide)) h4 h1) ⟨?_⟩;refine yV ⟨?_⟩;refine n10 _ (j+1) ?_ ?_ ?_
   ·refine b1o [2,8,12,14,16,45,46,47] [0,1,2,3,4,5,10,7,8,9] ⟨?_⟩;rw [h7];rfl
   ·exact hlt
   ·show _ < _;omega
  ·intro hc0;have hje:(chN n ss fl x1 need).take j=(chN n ss fl x1 need):=qlx (by omega);refine zn [8,12,14,16] ⟨?_⟩;refine yR [8,9,10] ⟨?_⟩;refine zq1 ⟨?_⟩;rw [hje,hfk];exact rta
end Go.Proofs.YtmbbjhopngejaaaGreatDoor
