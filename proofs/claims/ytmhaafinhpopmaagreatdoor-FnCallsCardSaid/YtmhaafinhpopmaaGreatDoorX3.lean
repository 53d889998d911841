/- What functions compute. No condition. -/
import Derived.Test.YtmhaafinhpopmaaGreatDoorX1
import Derived.Test.YtmhaafinhpopmaaGreatDoorShelf
set_option linter.unusedSimpArgs false
set_option linter.unusedVariables false
set_option linter.defProp false
namespace Go.Proofs.YtmhaafinhpopmaaGreatDoor
open Go Go.Vm
set_option maxHeartbeats 8000000
def firstP {α:Type} (p:α→Bool):Nat→List α→Int
  | _,[]=>-1
  | i,x::l=>if p x=true then i else firstP p (i+1) l
theorem first_step {α:Type} {p:α→Bool} {l:List α} {i:Nat} {x:α} (h:l[i]? =some x):firstP p i (l.drop i)=if p x=true then (i:Int) else firstP p (i+1) (l.drop (i+1)):=by
  rw [getElem_drop_cons h,firstP]
theorem first_end {α:Type} {p:α→Bool} {l:List α} {i k:Nat} (h:l.length≤i):firstP p k (l.drop i)=-1:=by
  rw [List.drop_of_length_le h,firstP]
theorem first_any {α:Type} (p:α→Bool):∀(l:List α) (i:Nat),decide (0≤firstP p i l)=l.any p
  | [],i=>by rw [firstP];rfl
  | x::l,i=>by
    rw [firstP,List.any_cons]
    by_cases h:p x=true
    · rw [if_pos h,h];simp
    · rw [if_neg h,first_any p l (i+1),Bool.eq_false_iff.2 h];rfl
theorem str_digit {n:Nat} (h:n < 10):strOf [IntKind.u8.wrap (48+(n:Int))]=⟨#[UInt8.ofNat (48+n)]⟩:=by
  have e:IntKind.u8.wrap (48+(n:Int))=((48+n:Nat):Int):=by
    simp only [IntKind.wrap,IntKind.bits,IntKind.signed];simp;omega
  rw [e];rfl
theorem l1Num_step (n:Nat) (hn:n < 1000000000) (ih:∀m,m < n→Con Tryz.prog 113 [.int .i64 (Nat.cast m)] [] (.str (numB m)) []):Con Tryz.prog 113 [.int .i64 (Nat.cast n)] [] (.str (numB n)) []:=by
 refine v_con [.tmp 2] [] Tryz.func113 rfl rfl rfl (by simp [Tryz.ntmps113]) ?_;intro Q0 n0 r0;simp only [Tryz.ntmps113,envFrom,Nat.reduceAdd];have T:=Tys.mk (ai Ty.t3 (ai Ty.t5 (ai Ty.t9 Ty.t22)));have F:=Fc.mk True.intro;refine yR [0] ⟨?_⟩;refine v_seq ?_;intros;refine yR [0,4] ⟨?_⟩;refine v_condS _ rfl ?_ ?_
 ·intro hc0;have h10:n < 10:=by omega
  refine yR [2] ⟨?_⟩;refine zr ⟨?_⟩;exact ret_pure rfl (by rw [str_digit h10,numB_lt h10]) (.inl rfl)
 ·intro hc0;have h10:¬n < 10:=by omega
  have hq:(n:Int).tdiv 10=((n / 10:Nat):Int):=rfl;have hm:(n:Int).tmod 10=((n % 10:Nat):Int):=rfl;have hm10:n % 10 < 10:=Nat.mod_lt _ (by omega);have hsz:(numB (n / 10)).size≤9:=numB_size 9 (n / 10) (by omega) (by omega);have hst:=str_digit hm10;have hz:∀b:UInt8,(ByteArray.mk #[b]).size=1:=fun _=>rfl
  refine zn [0] ⟨?_⟩;refine v_seq ?_;intro Q6 n6 e6 r6;refine v_draw (by kernel_rfl) ?_;intro K7 q7 k7;show aAny _ _ _ _ 11 (Array.replicate 11 false) _;have F:=Fc.mk (ai hq (ai hm (ai hst hz)));refine zdMove q7 true 0 10 ?_;refine zdBinOpW q7 true 1 11 ?_;refine zdMove q7 true 3 13 ?_;refine zdBinOp q7 true 4 14 ?_;refine zdBinOpW q7 true 5 15 ?_;refine zdConvert q7 true 6 16 ?_;refine aAny_two 2 7 rfl rfl (by kernel_rfl) ?_ ?_
  ·refine zsc (ih (n / 10) (by omega)) ⟨?_⟩;refine zoBuildSlice 7 ⟨?_⟩;refine zdConvertY q7 true 8 18 ?_;refine zdBinOpW q7 true 9 19 ?_;refine zoAssign 10 ⟨?_⟩;refine aAny_done (by kernel_rfl) ?_;refine k7 _ ?_;refine n6 _ _ (weak_keep [2] _) ?_;refine zq1 ⟨?_⟩;exact ret_pure rfl (by rw [numB_ge h10]) (.inl rfl)
  ·refine zsBuildSlice ⟨?_⟩;refine zdConvertY q7 true 8 18 ?_;refine zoc 2 (ih (n / 10) (by omega)) ⟨?_⟩;refine zdBinOpW q7 true 9 19 ?_;refine zoAssign 10 ⟨?_⟩;refine aAny_done (by kernel_rfl) ?_;refine k7 _ ?_;refine n6 _ _ (weak_keep [2] _) ?_;refine zq1 ⟨?_⟩;exact ret_pure rfl (by rw [numB_ge h10]) (.inl rfl)
theorem l1Num_con (n:Int) (h:0≤n∧n < 1000000000):Con Tryz.prog 113 [.int .i64 n] [] (.str (numB n.toNat)) []:=by
  have key:∀k:Nat,k < 1000000000→Con Tryz.prog 113 [.int .i64 (Nat.cast k)] [] (.str (numB k)) []:=by
    intro k
    induction k using Nat.strongRecOn with
    | ind k ih=>exact fun hk=>l1Num_step k hk fun m hm=>ih m hm (by omega)
  obtain ⟨m,hm⟩:∃m:Nat,n=(m:Int):=⟨n.toNat,by omega⟩;subst hm;rw [ql9];exact key m (by omega)
theorem Tryz.pow10:(Tryz.prog.globalNamed "internal/strconv.uint64pow10").isSome=true:=by kernel_rfl
theorem itoa_con (n:Int) (h:0≤n∧n < 1000000000):Con Tryz.prog 152 [.int .i64 n] [] (.str (numB n.toNat)) []:=by
  rw [←itoa_nat h.1];obtain ⟨g,hg⟩:=qlr.1 Tryz.pow10;exact con_int1 ⟨_,Tryz.func152,rfl,rfl⟩ (fun w μ=>.str _) (fun w ht=>Tryz.strconv_Itoa n (by omega) (by omega) w (tabIs_of hg ht))
end Go.Proofs.YtmhaafinhpopmaaGreatDoor
