/- What functions compute. No condition. -/
import Derived.Test.YtaefoaghpehbpaaGreatUz
import Derived.Test.YtaefoaghpehbpaaGreatUty
import Derived.Test.YtaefoaghpehbpaaGreatUmG
import Derived.Test.YtaefoaghpehbpaaGreatX5
import Derived.Test.YtaefoaghpehbpaaGreatX3
set_option linter.unusedSimpArgs false
set_option linter.unusedVariables false
set_option linter.defProp false
namespace Go.Proofs.YtaefoaghpehbpaaGreat
open Go Go.Vm
set_option maxHeartbeats 8000000
def b16 (k:Int):Int:=if k=0 then 4 else if k=1 then 2 else if k=2 then 3 else 2
def b2h (x:TA):Bool:=(decide (x.2.2.2.2=0) || decide (x.2.2.2.2=4)) && decide (b16 x.2.1≤x.2.2.2.1)
theorem f08 {x:TA} (h:c49 x=true):0≤x.2.1∧x.2.1≤3∧0≤x.2.2.1∧x.2.2.1≤13:=by
  simp only [c49,Bool.and_eq_true,decide_eq_true_eq] at h
  omega
set_option maxRecDepth 8000 in
theorem c6n (x0:ByteArray) (x1:Int) (x2:Int) (x3:Int) (x4:Int) (hk:0≤x1∧x1≤3):Con Tryz.prog 113 [.agg [V.str x0,V.int .i64 x1,V.int .i64 x2,V.int .i64 x3,V.int .i64 x4]] [] (.bool (b2h (x0,x1,x2,x3,x4))) []:=by
 refine b05 [.tmp 2] [] Tryz.func113 rfl rfl rfl (by simp [Tryz.ntmps113]) ?_
 intro Q0 n0 r0
 simp only [Tryz.ntmps113,b0l,Nat.reduceAdd]
 have T:=Tys.mk (ai Ty.t3 (ai Ty.t9 (ai Ty.t96 Ty.t214)))
 have F:=Fc.mk True.intro
 have hk4:x1=0∨x1=1∨x1=2∨x1=3:=by omega
 rcases hk4 with rfl | rfl | rfl | rfl
 ·skip
  skip
  have F:=Fc.mk True.intro
  refine yR [1] ⟨?_⟩;refine b0c ?_;intro Q2 n2 e2 r2;refine b1p (by kernel_rfl) ?_;intro K3 q3 k3
  show b14 _ _ _ _ 18 (Array.replicate 18 false) _
  refine b0p q3 true 0 3 ?_;refine b1h q3 true 1 4 ?_;refine b2a q3 true 2 5 ?_;refine b0o q3 true 3 6 ?_;refine b0e q3 true 4 7 ?_;refine b0q q3 true 5 8 ?_;refine b0z q3 true 6 9 ?_;refine b1w q3 true 7 10 ?_;refine b0o q3 true 8 11 ?_;refine b0e q3 true 9 12 ?_;refine b0q q3 true 10 13 ?_;refine c5y q3 true 11 14 ?_;refine b0e q3 true 12 15 ?_;refine b0q q3 true 13 16 ?_;refine c04 q3 true 14 17 ?_;refine b0z q3 true 15 18 ?_;refine b1w q3 true 16 19 ?_;refine b0t 17 ⟨?_⟩;refine b0j (by kernel_rfl) ?_;refine k3 _ ?_;refine n2 _ _ (b0f [2] _) ?_;refine zq1 ⟨?_⟩
  exact b0a rfl (by simp [b2h,b16]) (.inl rfl)
 ·skip
  skip
  have F:=Fc.mk True.intro
  refine yR [1] ⟨?_⟩;refine b0c ?_;intro Q5 n5 e5 r5;refine b1p (by kernel_rfl) ?_;intro K6 q6 k6
  show b14 _ _ _ _ 18 (Array.replicate 18 false) _
  refine b0p q6 true 0 3 ?_;refine b1h q6 true 1 4 ?_;refine b2a q6 true 2 5 ?_;refine b0o q6 true 3 6 ?_;refine b0e q6 true 4 7 ?_;refine b0q q6 true 5 8 ?_;refine b0z q6 true 6 9 ?_;refine b1w q6 true 7 10 ?_;refine b0o q6 true 8 11 ?_;refine b0e q6 true 9 12 ?_;refine b0q q6 true 10 13 ?_;refine c5y q6 true 11 14 ?_;refine b0e q6 true 12 15 ?_;refine b0q q6 true 13 16 ?_;refine c04 q6 true 14 17 ?_;refine b0z q6 true 15 18 ?_;refine b1w q6 true 16 19 ?_;refine b0t 17 ⟨?_⟩;refine b0j (by kernel_rfl) ?_;refine k6 _ ?_;refine n5 _ _ (b0f [2] _) ?_;refine zq1 ⟨?_⟩
  exact b0a rfl (by simp [b2h,b16]) (.inl rfl)
 ·skip
  skip
  have F:=Fc.mk True.intro
  refine yR [1] ⟨?_⟩;refine b0c ?_;intro Q8 n8 e8 r8;refine b1p (by kernel_rfl) ?_;intro K9 q9 k9
  show b14 _ _ _ _ 18 (Array.replicate 18 false) _
  refine b0p q9 true 0 3 ?_;refine b1h q9 true 1 4 ?_;refine b2a q9 true 2 5 ?_;refine b0o q9 true 3 6 ?_;refine b0e q9 true 4 7 ?_;refine b0q q9 true 5 8 ?_;refine b0z q9 true 6 9 ?_;refine b1w q9 true 7 10 ?_;refine b0o q9 true 8 11 ?_;refine b0e q9 true 9 12 ?_;refine b0q q9 true 10 13 ?_;refine c5y q9 true 11 14 ?_;refine b0e q9 true 12 15 ?_;refine b0q q9 true 13 16 ?_;refine c04 q9 true 14 17 ?_;refine b0z q9 true 15 18 ?_;refine b1w q9 true 16 19 ?_;refine b0t 17 ⟨?_⟩;refine b0j (by kernel_rfl) ?_;refine k9 _ ?_;refine n8 _ _ (b0f [2] _) ?_;refine zq1 ⟨?_⟩
  exact b0a rfl (by simp [b2h,b16]) (.inl rfl)
 ·skip
  skip
  have F:=Fc.mk True.intro
  refine yR [1] ⟨?_⟩;refine b0c ?_;intro Q11 n11 e11 r11;refine b1p (by kernel_rfl) ?_;intro K12 q12 k12
  show b14 _ _ _ _ 18 (Array.replicate 18 false) _
  refine b0p q12 true 0 3 ?_;refine b1h q12 true 1 4 ?_;refine b2a q12 true 2 5 ?_;refine b0o q12 true 3 6 ?_;refine b0e q12 true 4 7 ?_;refine b0q q12 true 5 8 ?_;refine b0z q12 true 6 9 ?_;refine b1w q12 true 7 10 ?_;refine b0o q12 true 8 11 ?_;refine b0e q12 true 9 12 ?_;refine b0q q12 true 10 13 ?_;refine c5y q12 true 11 14 ?_;refine b0e q12 true 12 15 ?_;refine b0q q12 true 13 16 ?_;refine c04 q12 true 14 17 ?_;refine b0z q12 true 15 18 ?_;refine b1w q12 true 16 19 ?_;refine b0t 17 ⟨?_⟩;refine b0j (by kernel_rfl) ?_;refine k12 _ ?_;refine n11 _ _ (b0f [2] _) ?_;refine zq1 ⟨?_⟩
  exact b0a rfl (by simp [b2h,b16]) (.inl rfl)
set_option maxRecDepth 8000 in
theorem d56 (x0:ByteArray) (x1:Int) (x2:Int) (x3:Int) (x4:Int) (hk:0≤x1∧x1≤3):Con Tryz.prog 112 [.agg [V.str x0,V.int .i64 x1,V.int .i64 x2,V.int .i64 x3,V.int .i64 x4]] [] (.bool (b2h (x0,x1,x2,x3,x4))) []:=by
 refine b05 [.tmp 2] [] Tryz.func112 rfl rfl rfl (by simp [Tryz.ntmps112]) ?_
 intro Q0 n0 r0
 simp only [Tryz.ntmps112,b0l,Nat.reduceAdd]
 have T:=Tys.mk (ai Ty.t3 (ai Ty.t9 (ai Ty.t75 Ty.t96)))
 have F:=Fc.mk True.intro
 have hk4:x1=0∨x1=1∨x1=2∨x1=3:=by omega
 have hs4:x4=0∨x4=4∨¬(x4=0∨x4=4):=by omega
 rcases hk4 with rfl | rfl | rfl | rfl<;>rcases hs4 with h4 | h4 | h4
 ·skip
  subst h4
  have d0:decide ((0:Int)=4)=false:=rfl
  have F:=Fc.mk (ai d0 (ai @decide_true @Bool.true_or))
  refine yR [1] ⟨?_⟩;refine b0c ?_;intro Q2 n2 e2 r2;refine b1p (by kernel_rfl) ?_;intro K3 q3 k3
  show b14 _ _ _ _ 19 (Array.replicate 19 false) _
  refine b0p q3 true 0 3 ?_;refine b1h q3 true 1 4 ?_;refine b2a q3 true 2 5 ?_;refine b0o q3 true 3 6 ?_;refine b0e q3 true 4 7 ?_;refine b0q q3 true 5 8 ?_;refine b0z q3 true 6 9 ?_;refine b1w q3 true 7 10 ?_;refine b0o q3 true 8 11 ?_;refine b0e q3 true 9 12 ?_;refine b0q q3 true 10 13 ?_;refine b0e q3 true 12 15 ?_;refine b0q q3 true 13 16 ?_;refine b2m 11 ⟨?_⟩;refine b0x q3 true 14 17 ?_;refine b0q q3 true 15 18 ?_;refine b0z q3 true 16 19 ?_;refine b1w q3 true 17 20 ?_;refine b0t 18 ⟨?_⟩;refine b0j (by kernel_rfl) ?_;refine k3 _ ?_;refine n2 _ _ (b0f [2] _) ?_;refine zq1 ⟨?_⟩
  exact b0a rfl (by first | (simp [b2h,b16];done) | (simp [b2h,b16,d0,d4];done) | (simp [b2h,b16] at d0 d4⊢;simp [*];done)) (.inl rfl)
 ·skip
  subst h4
  have d0:decide ((4:Int)=0)=false:=rfl
  have d4:decide ((4:Int)=4)=true:=rfl
  have F:=Fc.mk (ai d0 (ai d4 (ai @decide_true @Bool.or_true)))
  refine yR [1] ⟨?_⟩;refine b0c ?_;intro Q5 n5 e5 r5;refine b1p (by kernel_rfl) ?_;intro K6 q6 k6
  show b14 _ _ _ _ 19 (Array.replicate 19 false) _
  refine b0p q6 true 0 3 ?_;refine b1h q6 true 1 4 ?_;refine b2a q6 true 2 5 ?_;refine b0o q6 true 3 6 ?_;refine b0e q6 true 4 7 ?_;refine b0q q6 true 5 8 ?_;refine b0z q6 true 6 9 ?_;refine b1w q6 true 7 10 ?_;refine b0o q6 true 8 11 ?_;refine b0e q6 true 9 12 ?_;refine b0q q6 true 10 13 ?_;refine b0e q6 true 12 15 ?_;refine b0q q6 true 13 16 ?_;refine b2m 11 ⟨?_⟩;refine b0x q6 true 14 17 ?_;refine b0q q6 true 15 18 ?_;refine b0z q6 true 16 19 ?_;refine b1w q6 true 17 20 ?_;refine b0t 18 ⟨?_⟩;refine b0j (by kernel_rfl) ?_;refine k6 _ ?_;refine n5 _ _ (b0f [2] _) ?_;refine zq1 ⟨?_⟩
  exact b0a rfl (by first | (simp [b2h,b16];done) | (simp [b2h,b16,d0,d4];done) | (simp [b2h,b16] at d0 d4⊢;simp [*];done)) (.inl rfl)
 ·skip
  have d0:decide (x4=0)=false:=decide_eq_false (fun h=>h4 (.inl h))
  have d4:decide (x4=4)=false:=decide_eq_false (fun h=>h4 (.inr h))
  have F:=Fc.mk (ai d0 d4)
  refine yR [1] ⟨?_⟩;refine b0c ?_;intro Q8 n8 e8 r8;refine b1p (by kernel_rfl) ?_;intro K9 q9 k9
  show b14 _ _ _ _ 19 (Array.replicate 19 false) _
  refine b0p q9 true 0 3 ?_;refine b1h q9 true 1 4 ?_;refine b2a q9 true 2 5 ?_;refine b0o q9 true 3 6 ?_;refine b0e q9 true 4 7 ?_;refine b0q q9 true 5 8 ?_;refine b0z q9 true 6 9 ?_;refine b1w q9 true 7 10 ?_;refine b0o q9 true 8 11 ?_;refine b0e q9 true 9 12 ?_;refine b0q q9 true 10 13 ?_;refine b0e q9 true 12 15 ?_;refine b0q q9 true 13 16 ?_;refine b2m 11 ⟨?_⟩;refine b0x q9 true 14 17 ?_;refine b0q q9 true 15 18 ?_;refine b0z q9 true 16 19 ?_;refine b1w q9 true 17 20 ?_;refine b0t 18 ⟨?_⟩;refine b0j (by kernel_rfl) ?_;refine k9 _ ?_;refine n8 _ _ (b0f [2] _) ?_;refine zq1 ⟨?_⟩
  exact b0a rfl (by first | (simp [b2h,b16];done) | (simp [b2h,b16,d0,d4];done) | (simp [b2h,b16] at d0 d4⊢;simp [*];done)) (.inl rfl)
 ·skip
  subst h4
  have d0:decide ((0:Int)=4)=false:=rfl
  have F:=Fc.mk (ai d0 (ai @decide_true @Bool.true_or))
  refine yR [1] ⟨?_⟩;refine b0c ?_;intro Q11 n11 e11 r11;refine b1p (by kernel_rfl) ?_;intro K12 q12 k12
  show b14 _ _ _ _ 19 (Array.replicate 19 false) _
  refine b0p q12 true 0 3 ?_;refine b1h q12 true 1 4 ?_;refine b2a q12 true 2 5 ?_;refine b0o q12 true 3 6 ?_;refine b0e q12 true 4 7 ?_;refine b0q q12 true 5 8 ?_;refine b0z q12 true 6 9 ?_;refine b1w q12 true 7 10 ?_;refine b0o q12 true 8 11 ?_;refine b0e q12 true 9 12 ?_;refine b0q q12 true 10 13 ?_;refine b0e q12 true 12 15 ?_;refine b0q q12 true 13 16 ?_;refine b2m 11 ⟨?_⟩;refine b0x q12 true 14 17 ?_;refine b0q q12 true 15 18 ?_;refine b0z q12 true 16 19 ?_;refine b1w q12 true 17 20 ?_;refine b0t 18 ⟨?_⟩;refine b0j (by kernel_rfl) ?_;refine k12 _ ?_;refine n11 _ _ (b0f [2] _) ?_;refine zq1 ⟨?_⟩
  exact b0a rfl (by first | (simp [b2h,b16];done) | (simp [b2h,b16,d0,d4];done) | (simp [b2h,b16] at d0 d4⊢;simp [*];done)) (.inl rfl)
 ·skip
  subst h4
  have d0:decide ((4:Int)=0)=false:=rfl
  have d4:decide ((4:Int)=4)=true:=rfl
  have F:=Fc.mk (ai d0 (ai d4 (ai @decide_true @Bool.or_true)))
  refine yR [1] ⟨?_⟩;refine b0c ?_;intro Q14 n14 e14 r14;refine b1p (by kernel_rfl) ?_;intro K15 q15 k15
  show b14 _ _ _ _ 19 (Array.replicate 19 false) _
  refine b0p q15 true 0 3 ?_;refine b1h q15 true 1 4 ?_;refine b2a q15 true 2 5 ?_;refine b0o q15 true 3 6 ?_;refine b0e q15 true 4 7 ?_;refine b0q q15 true 5 8 ?_;refine b0z q15 true 6 9 ?_;refine b1w q15 true 7 10 ?_;refine b0o q15 true 8 11 ?_;refine b0e q15 true 9 12 ?_;refine b0q q15 true 10 13 ?_;refine b0e q15 true 12 15 ?_;refine b0q q15 true 13 16 ?_;refine b2m 11 ⟨?_⟩;refine b0x q15 true 14 17 ?_;refine b0q q15 true 15 18 ?_;refine b0z q15 true 16 19 ?_;refine b1w q15 true 17 20 ?_;refine b0t 18 ⟨?_⟩;refine b0j (by kernel_rfl) ?_;refine k15 _ ?_;refine n14 _ _ (b0f [2] _) ?_;refine zq1 ⟨?_⟩
  exact b0a rfl (by first | (simp [b2h,b16];done) | (simp [b2h,b16,d0,d4];done) | (simp [b2h,b16] at d0 d4⊢;simp [*];done)) (.inl rfl)
 ·skip
  have d0:decide (x4=0)=false:=decide_eq_false (fun h=>h4 (.inl h))
  have d4:decide (x4=4)=false:=decide_eq_false (fun h=>h4 (.inr h))
  have F:=Fc.mk (ai d0 d4)
  refine yR [1] ⟨?_⟩;refine b0c ?_;intro Q17 n17 e17 r17;refine b1p (by kernel_rfl) ?_;intro K18 q18 k18
  show b14 _ _ _ _ 19 (Array.replicate 19 false) _
  refine b0p q18 true 0 3 ?_;refine b1h q18 true 1 4 ?_;refine b2a q18 true 2 5 ?_;refine b0o q18 true 3 6 ?_;refine b0e q18 true 4 7 ?_;refine b0q q18 true 5 8 ?_;refine b0z q18 true 6 9 ?_;refine b1w q18 true 7 10 ?_;refine b0o q18 true 8 11 ?_;refine b0e q18 true 9 12 ?_;refine b0q q18 true 10 13 ?_;refine b0e q18 true 12 15 ?_;refine b0q q18 true 13 16 ?_;refine b2m 11 ⟨?_⟩;refine b0x q18 true 14 17 ?_;refine b0q q18 true 15 18 ?_;refine b0z q18 true 16 19 ?_;refine b1w q18 true 17 20 ?_;refine b0t 18 ⟨?_⟩;refine b0j (by kernel_rfl) ?_;refine k18 _ ?_;refine n17 _ _ (b0f [2] _) ?_;refine zq1 ⟨?_⟩
  exact b0a rfl (by first | (simp [b2h,b16];done) | (simp [b2h,b16,d0,d4];done) | (simp [b2h,b16] at d0 d4⊢;simp [*];done)) (.inl rfl)
 ·skip
  subst h4
  have d0:decide ((0:Int)=4)=false:=rfl
  have F:=Fc.mk (ai d0 (ai @decide_true @Bool.true_or))
  refine yR [1] ⟨?_⟩;refine b0c ?_;intro Q20 n20 e20 r20;refine b1p (by kernel_rfl) ?_;intro K21 q21 k21
  show b14 _ _ _ _ 19 (Array.replicate 19 false) _
  refine b0p q21 true 0 3 ?_;refine b1h q21 true 1 4 ?_;refine b2a q21 true 2 5 ?_;refine b0o q21 true 3 6 ?_;refine b0e q21 true 4 7 ?_;refine b0q q21 true 5 8 ?_;refine b0z q21 true 6 9 ?_;refine b1w q21 true 7 10 ?_;refine b0o q21 true 8 11 ?_;refine b0e q21 true 9 12 ?_;refine b0q q21 true 10 13 ?_;refine b0e q21 true 12 15 ?_;refine b0q q21 true 13 16 ?_;refine b2m 11 ⟨?_⟩;refine b0x q21 true 14 17 ?_;refine b0q q21 true 15 18 ?_;refine b0z q21 true 16 19 ?_;refine b1w q21 true 17 20 ?_;refine b0t 18 ⟨?_⟩;refine b0j (by kernel_rfl) ?_;refine k21 _ ?_;refine n20 _ _ (b0f [2] _) ?_;refine zq1 ⟨?_⟩
  exact b0a rfl (by first | (simp [b2h,b16];done) | (simp [b2h,b16,d0,d4];done) | (simp [b2h,b16] at d0 d4⊢;simp [*];done)) (.inl rfl)
 ·skip
  subst h4
  have d0:decide ((4:Int)=0)=false:=rfl
  have d4:decide ((4:Int)=4)=true:=rfl
  have F:=Fc.mk (ai d0 (ai d4 (ai @decide_true @Bool.or_true)))
  refine yR [1] ⟨?_⟩;refine b0c ?_;intro Q23 n23 e23 r23;refine b1p (by kernel_rfl) ?_;intro K24 q24 k24
  show b14 _ _ _ _ 19 (Array.replicate 19 false) _
  refine b0p q24 true 0 3 ?_;refine b1h q24 true 1 4 ?_;refine b2a q24 true 2 5 ?_;refine b0o q24 true 3 6 ?_;refine b0e q24 true 4 7 ?_;refine b0q q24 true 5 8 ?_;refine b0z q24 true 6 9 ?_;refine b1w q24 true 7 10 ?_;refine b0o q24 true 8 11 ?_;refine b0e q24 true 9 12 ?_;refine b0q q24 true 10 13 ?_;refine b0e q24 true 12 15 ?_;refine b0q q24 true 13 16 ?_;refine b2m 11 ⟨?_⟩;refine b0x q24 true 14 17 ?_;refine b0q q24 true 15 18 ?_;refine b0z q24 true 16 19 ?_;refine b1w q24 true 17 20 ?_;refine b0t 18 ⟨?_⟩;refine b0j (by kernel_rfl) ?_;refine k24 _ ?_;refine n23 _ _ (b0f [2] _) ?_;refine zq1 ⟨?_⟩
  exact b0a rfl (by first | (simp [b2h,b16];done) | (simp [b2h,b16,d0,d4];done) | (simp [b2h,b16] at d0 d4⊢;simp [*];done)) (.inl rfl)
 ·skip
  have d0:decide (x4=0)=false:=decide_eq_false (fun h=>h4 (.inl h))
  have d4:decide (x4=4)=false:=decide_eq_false (fun h=>h4 (.inr h))
  have F:=Fc.mk (ai d0 d4)
  refine yR [1] ⟨?_⟩;refine b0c ?_;intro Q26 n26 e26 r26;refine b1p (by kernel_rfl) ?_;intro K27 q27 k27
  show b14 _ _ _ _ 19 (Array.replicate 19 false) _
  refine b0p q27 true 0 3 ?_;refine b1h q27 true 1 4 ?_;refine b2a q27 true 2 5 ?_;refine b0o q27 true 3 6 ?_;refine b0e q27 true 4 7 ?_;refine b0q q27 true 5 8 ?_;refine b0z q27 true 6 9 ?_;refine b1w q27 true 7 10 ?_;refine b0o q27 true 8 11 ?_;refine b0e q27 true 9 12 ?_;refine b0q q27 true 10 13 ?_;refine b0e q27 true 12 15 ?_;refine b0q q27 true 13 16 ?_;refine b2m 11 ⟨?_⟩;refine b0x q27 true 14 17 ?_;refine b0q q27 true 15 18 ?_;refine b0z q27 true 16 19 ?_;refine b1w q27 true 17 20 ?_;refine b0t 18 ⟨?_⟩;refine b0j (by kernel_rfl) ?_;refine k27 _ ?_;refine n26 _ _ (b0f [2] _) ?_;refine zq1 ⟨?_⟩
  exact b0a rfl (by first | (simp [b2h,b16];done) | (simp [b2h,b16,d0,d4];done) | (simp [b2h,b16] at d0 d4⊢;simp [*];done)) (.inl rfl)
 ·skip
  subst h4
  have d0:decide ((0:Int)=4)=false:=rfl
  have F:=Fc.mk (ai d0 (ai @decide_true @Bool.true_or))
  refine yR [1] ⟨?_⟩;refine b0c ?_;intro Q29 n29 e29 r29;refine b1p (by kernel_rfl) ?_;intro K30 q30 k30
  show b14 _ _ _ _ 19 (Array.replicate 19 false) _
  refine b0p q30 true 0 3 ?_;refine b1h q30 true 1 4 ?_;refine b2a q30 true 2 5 ?_;refine b0o q30 true 3 6 ?_;refine b0e q30 true 4 7 ?_;refine b0q q30 true 5 8 ?_;refine b0z q30 true 6 9 ?_;refine b1w q30 true 7 10 ?_;refine b0o q30 true 8 11 ?_;refine b0e q30 true 9 12 ?_;refine b0q q30 true 10 13 ?_;refine b0e q30 true 12 15 ?_;refine b0q q30 true 13 16 ?_;refine b2m 11 ⟨?_⟩;refine b0x q30 true 14 17 ?_;refine b0q q30 true 15 18 ?_;refine b0z q30 true 16 19 ?_;refine b1w q30 true 17 20 ?_;refine b0t 18 ⟨?_⟩;refine b0j (by kernel_rfl) ?_;refine k30 _ ?_;refine n29 _ _ (b0f [2] _) ?_;refine zq1 ⟨?_⟩
  exact b0a rfl (by first | (simp [b2h,b16];done) | (simp [b2h,b16,d0,d4];done) | (simp [b2h,b16] at d0 d4⊢;simp [*];done)) (.inl rfl)
 ·skip
  subst h4
  have d0:decide ((4:Int)=0)=false:=rfl
  have d4:decide ((4:Int)=4)=true:=rfl
  have F:=Fc.mk (ai d0 (ai d4 (ai @decide_true @Bool.or_true)))
  refine yR [1] ⟨?_⟩;refine b0c ?_;intro Q32 n32 e32 r32;refine b1p (by kernel_rfl) ?_;intro K33 q33 k33
  show b14 _ _ _ _ 19 (Array.replicate 19 false) _
  refine b0p q33 true 0 3 ?_;refine b1h q33 true 1 4 ?_;refine b2a q33 true 2 5 ?_;refine b0o q33 true 3 6 ?_;refine b0e q33 true 4 7 ?_;refine b0q q33 true 5 8 ?_;refine b0z q33 true 6 9 ?_;refine b1w q33 true 7 10 ?_;refine b0o q33 true 8 11 ?_;refine b0e q33 true 9 12 ?_;refine b0q q33 true 10 13 ?_;refine b0e q33 true 12 15 ?_;refine b0q q33 true 13 16 ?_;refine b2m 11 ⟨?_⟩;refine b0x q33 true 14 17 ?_;refine b0q q33 true 15 18 ?_;refine b0z q33 true 16 19 ?_;refine b1w q33 true 17 20 ?_;refine b0t 18 ⟨?_⟩;refine b0j (by kernel_rfl) ?_;refine k33 _ ?_;refine n32 _ _ (b0f [2] _) ?_;refine zq1 ⟨?_⟩
  exact b0a rfl (by first | (simp [b2h,b16];done) | (simp [b2h,b16,d0,d4];done) | (simp [b2h,b16] at d0 d4⊢;simp [*];done)) (.inl rfl)
 ·skip
  have d0:decide (x4=0)=false:=decide_eq_false (fun h=>h4 (.inl h))
  have d4:decide (x4=4)=false:=decide_eq_false (fun h=>h4 (.inr h))
  have F:=Fc.mk (ai d0 d4)
  refine yR [1] ⟨?_⟩;refine b0c ?_;intro Q35 n35 e35 r35;refine b1p (by kernel_rfl) ?_;intro K36 q36 k36
  show b14 _ _ _ _ 19 (Array.replicate 19 false) _
  refine b0p q36 true 0 3 ?_;refine b1h q36 true 1 4 ?_;refine b2a q36 true 2 5 ?_;refine b0o q36 true 3 6 ?_;refine b0e q36 true 4 7 ?_;refine b0q q36 true 5 8 ?_;refine b0z q36 true 6 9 ?_;refine b1w q36 true 7 10 ?_;refine b0o q36 true 8 11 ?_;refine b0e q36 true 9 12 ?_;refine b0q q36 true 10 13 ?_;refine b0e q36 true 12 15 ?_;refine b0q q36 true 13 16 ?_;refine b2m 11 ⟨?_⟩;refine b0x q36 true 14 17 ?_;refine b0q q36 true 15 18 ?_;refine b0z q36 true 16 19 ?_;refine b1w q36 true 17 20 ?_;refine b0t 18 ⟨?_⟩;refine b0j (by kernel_rfl) ?_;refine k36 _ ?_;refine n35 _ _ (b0f [2] _) ?_;refine zq1 ⟨?_⟩
  exact b0a rfl (by first | (simp [b2h,b16];done) | (simp [b2h,b16,d0,d4];done) | (simp [b2h,b16] at d0 d4⊢;simp [*];done)) (.inl rfl)
theorem b52 (l:List TA) (g:Nat) (caps:List V) (p:TA→Bool) (hl:l.length≤1048576) (hc:Caps caps) (hg:∀x0 x1 x2 x3 x4,(x0,x1,x2,x3,x4)∈l→Con Tryz.prog g (V.agg [V.str x0,V.int .i64 x1,V.int .i64 x2,V.int .i64 x3,V.int .i64 x4]::caps) [] (.bool (p (x0,x1,x2,x3,x4))) []):Con Tryz.prog 142 [.sl (l.map (fun t:TA=>V.agg [V.str t.1,V.int .i64 t.2.1,V.int .i64 t.2.2.1,V.int .i64 t.2.2.2.1,V.int .i64 t.2.2.2.2])),.fn g caps] [] (.int .i64 (b20 p 0 l)) []:=by
 refine b05 [.tmp 4] [] Tryz.func142 rfl rfl rfl (by simp [Tryz.ntmps142]) ?_
 intro Q0 n0 r0
 simp only [Tryz.ntmps142,b0l,Nat.reduceAdd]
 have T:=Tys.mk (ai Ty.t3 (ai Ty.t4 (ai Ty.t9 (ai Ty.t32 Ty.t96))))
 have F:=Fc.mk True.intro
 refine yR [0,1] ⟨?_⟩;refine b0c ?_;intros;refine yR [0,1,7,8] ⟨?_⟩;refine b0g ?_;intro Q4 n4 x4 e4 r4;refine b08 (fun i=>⟨[(0,.sl (l.map (fun t:TA=>V.agg [V.str t.1,V.int .i64 t.2.1,V.int .i64 t.2.2.1,V.int .i64 t.2.2.2.1,V.int .i64 t.2.2.2.2]))),(1,.fn g caps),(7,.int .i64 l.length),(8,.int .i64 (Nat.cast i))],[],false,19,0⟩) (fun i=>i≤l.length∧b20 p i (l.drop i)=b20 p 0 l) (fun i=>l.length - i) 0 ?_ ?_ ?_
 ·refine b1a [0,1,7,8] ?_
  simp only [b0s,b0k,b0h,b0i,b0n,Nat.reduceEqDiff,reduceIte]
  rfl
 ·exact ⟨Nat.zero_le _,rfl⟩
 ·rintro i hok5 Q5 n5 e5 r5
  obtain ⟨hi1,hR⟩:=hok5
  refine yR [0,1,7,8,9] ⟨?_⟩;refine b0c ?_;intros;refine b0d _ rfl ?_ ?_
  ·intro hc0
   have hlt:i < l.length:=by omega
   obtain ⟨⟨x0,x1,x2,x3,x4⟩,hx⟩:∃x:TA,l[i]? =some x:=⟨l[i]'(by omega),List.getElem?_eq_getElem (by omega)⟩
   have hst:=b54 (p:=p) hx
   refine zn [0,1,7,8] ⟨?_⟩;refine b0c ?_;intros;refine b0g ?_;intros
   have F:=Fc.mk (gdm hx)
   refine yR [0,1,5,7,8] ⟨?_⟩;refine b4y [0,1,5,7,8,16] ?_;intro K12 k12;refine zq5 ⟨?_⟩;refine b6n ⟨?_⟩;refine b6a ⟨?_⟩;refine d5j ⟨?_⟩;refine zcc (hg x0 x1 x2 x3 x4 (List.mem_of_getElem? hx)) ⟨?_⟩;refine k12 _ ?_;refine zk ⟨?_⟩;refine b0d _ rfl ?_ ?_
   ·intro hc1
    refine yR [4] ⟨?_⟩;refine zr ⟨?_⟩
    exact b0a rfl (by rw [←hR,hst,if_pos hc1]) (.inl rfl)
   ·intro hc1
    refine zn [0,1,7,8] ⟨?_⟩;refine yV ⟨?_⟩;refine n5 _ (i+1) ?_ ?_ ?_
    ·refine b5b [0,1,7,8] [] ⟨?_⟩
     rfl
    ·exact ⟨by omega,by rw [←hR,hst,if_neg (by simp [hc1])]⟩
    ·show _ < _;omega
  ·intro hc0
   refine zn [] ⟨?_⟩;refine yR [4] ⟨?_⟩;refine zr ⟨?_⟩
   exact b0a rfl (by rw [←hR,b7a (by omega)]) (.inl rfl)
theorem b3a (l:List TA) (g:Nat) (caps:List V) (p:TA→Bool) (hl:l.length≤1048576) (hc:Caps caps) (hg:∀x0 x1 x2 x3 x4,(x0,x1,x2,x3,x4)∈l→Con Tryz.prog g (V.agg [V.str x0,V.int .i64 x1,V.int .i64 x2,V.int .i64 x3,V.int .i64 x4]::caps) [] (.bool (p (x0,x1,x2,x3,x4))) []):Con Tryz.prog 196 [.sl (l.map (fun t:TA=>V.agg [V.str t.1,V.int .i64 t.2.1,V.int .i64 t.2.2.1,V.int .i64 t.2.2.2.1,V.int .i64 t.2.2.2.2])),.fn g caps] [] (.bool (l.any p)) []:=by
 refine b05 [.tmp 4] [] Tryz.func196 rfl rfl rfl (by simp [Tryz.ntmps196]) ?_
 intro Q0 n0 r0
 simp only [Tryz.ntmps196,b0l,Nat.reduceAdd]
 have T:=Tys.mk (ai Ty.t3 (ai Ty.t9 (ai Ty.t32 Ty.t96)))
 have F:=Fc.mk True.intro
 refine yR [0,1] ⟨?_⟩;refine b4y [4] ?_;intro K2 k2;refine zq5 ⟨?_⟩;refine zcc (b52 l g caps p hl hc hg) ⟨?_⟩;refine f46 ⟨?_⟩;refine b30 ⟨?_⟩;refine k2 _ ?_;refine zq1 ⟨?_⟩
 exact b0a rfl (by rw [c0w]) (.inl rfl)
theorem b78 (l:List TA) (hl:l.length≤1048576):Con Tryz.prog 139 [.sl (l.map (fun t:TA=>V.agg [V.str t.1,V.int .i64 t.2.1,V.int .i64 t.2.2.1,V.int .i64 t.2.2.2.1,V.int .i64 t.2.2.2.2]))] [] (.ref 0) [.arr (l.map (fun t:TA=>V.agg [V.str t.1,V.int .i64 t.2.1,V.int .i64 t.2.2.1,V.int .i64 t.2.2.2.1,V.int .i64 t.2.2.2.2])) .flat]:=by
 have hns:(l.map (fun t:TA=>V.agg [V.str t.1,V.int .i64 t.2.1,V.int .i64 t.2.2.1,V.int .i64 t.2.2.2.1,V.int .i64 t.2.2.2.2])).all V.noSl=true:=by rw [List.all_map,List.all_eq_true];intro a _;rfl
 refine b05 [.tmp 2] [] Tryz.func139 rfl rfl rfl (by simp [Tryz.ntmps139]) ?_
 intro Q0 n0 r0
 simp only [Tryz.ntmps139,b0l,Nat.reduceAdd]
 have T:=Tys.mk (ai Ty.t3 (ai Ty.t9 (ai Ty.t32 Ty.t96)))
 have F:=Fc.mk True.intro
 have F:=Fc.mk hns
 refine yR [0] ⟨?_⟩;refine b0c ?_;intros;refine b4y [0,4] ?_;intro K3 k3;refine b6n ⟨?_⟩;refine f7u ⟨?_⟩
 intro nb4 hnb4
 refine k3 _ ?_;refine zk ⟨?_⟩;refine b0d _ rfl ?_ ?_
 ·intro hc0
  have hnil:l=[]:=by cases l with | nil=>rfl | cons a b=>have:=hnb4 (by simp);rw [hc0] at this;cases this
  refine yR [2] ⟨?_⟩;refine zr ⟨?_⟩
  rw [hnil];exact b1t rfl rfl rfl
 ·intro hc0
  refine zn [0] ⟨?_⟩;refine yR [2] ⟨?_⟩;refine zr ⟨?_⟩
  exact b1t rfl rfl (by simp)
end Go.Proofs.YtaefoaghpehbpaaGreat
