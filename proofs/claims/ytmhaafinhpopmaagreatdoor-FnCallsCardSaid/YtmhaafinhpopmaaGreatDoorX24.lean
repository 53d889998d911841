/- What functions compute. No condition. -/
import Derived.Test.YtmhaafinhpopmaaGreatDoorUmI
import Derived.Test.YtmhaafinhpopmaaGreatDoorX22
import Derived.Test.YtmhaafinhpopmaaGreatDoorX7
set_option linter.unusedSimpArgs false
set_option linter.unusedVariables false
set_option linter.defProp false
namespace Go.Proofs.YtmhaafinhpopmaaGreatDoor
open Go Go.Vm
set_option maxHeartbeats 8000000
section
open Go.RowKit
theorem idx_byte (l:List UInt8) (c:UInt8):Lib.index l [c]=Lib.indexByte l c:=by
  have h0:=Lib.indexByte_ge l c;rcases idx_one (c:=c) (l:=l) with ⟨h,hf⟩ | ⟨i,a,r,h,e,hf,hl⟩
  · rw [h]
    rcases Int.lt_or_le (Lib.indexByte l c) 0 with q | q
    · omega
    · obtain ⟨p,hp⟩:=Int.eq_ofNat_of_zero_le q
      obtain ⟨h1,_⟩:=Lib.indexByte_some hp;exact absurd (qlb h1) hf
  · rw [h]
    have hc:l[i]? =some c:=by rw [e,←hl,qlj (qlf _),Nat.sub_self];rfl
    rcases Int.lt_or_le (Lib.indexByte l c) 0 with q | q
    · exact absurd hc (Lib.indexByte_none (by omega) i)
    · obtain ⟨p,hp⟩:=Int.eq_ofNat_of_zero_le q
      obtain ⟨h1,h2⟩:=Lib.indexByte_some hp;rw [hp];rcases Nat.lt_trichotomy p i with q1 | q1 | q1
      · have:c∈a:=by
          rw [e,qli (by omega)] at h1;exact qlb h1
        exact absurd this hf
      · rw [q1]
      · exact absurd hc (h2 i q1)
theorem genSplit_calls (s:ByteArray) (c:UInt8) (sv:Nat) (hsv:sv≤1) (w:World) (hs:s.size≤1048576):Calls Tryz.prog 114 #[.string s,.string ⟨#[c]⟩,.int .i64 sv,.int .i64 (-1)] w fun e w'=>
    e=.returned (.slice (some ⟨w.heap.size,0,none⟩) (Lib.countB s ⟨#[c]⟩+1) (Lib.countB s ⟨#[c]⟩+1))∧w'=w.alloc (.cells ((Lib.splitB ⟨#[c]⟩ sv (Lib.countB s ⟨#[c]⟩) s).map Value.string).toArray 9):=by
  have h1:1≤(ByteArray.mk #[c]).size:=qlf 1;have hle:=Lib.countB_le ⟨#[c]⟩ h1 s.size s (qlf _);have hlen:=Lib.splitB_all ⟨#[c]⟩ h1 sv _ s rfl;have k:=Any.strings_genSplit_core Tryz.lays221 (by kernel_rfl) s ⟨#[c]⟩ sv (-1) (Lib.countB s ⟨#[c]⟩+1) w (by omega) h1 hsv
    (fun x cc hx=>(Tryz.strings_Index_one x c _).mono fun e w' ⟨he,hw⟩=>⟨by rw [he];exact congrArg (fun z=>Ending.returned (Value.int .i64 z)) (idx_byte _ _).symm,hw⟩)
    ((Tryz.strings_Count_one s c w).mono fun e w' ⟨he,hw⟩=>⟨by rw [he];show _=Ending.returned (Value.int .i64 ((Lib.count s.data.toList [c]:Nat):Int));rw [Lib.count_one];rfl,hw⟩)
    (by decide) (by decide) (by rw [if_pos (by decide)];omega)
  rw [Nat.add_sub_cancel,hlen] at k;have e2:Lib.cellsOf (Lib.splitB ⟨#[c]⟩ sv (Lib.countB s ⟨#[c]⟩) s) (Lib.countB s ⟨#[c]⟩+1)=((Lib.splitB ⟨#[c]⟩ sv (Lib.countB s ⟨#[c]⟩) s).map Value.string).toArray:=by rw [←hlen];exact Lib.cellsOf_full _
  rw [e2] at k;exact k
theorem split_calls (s:ByteArray) (c:UInt8) (w:World) (hs:s.size≤1048576):Calls Tryz.prog 115 #[.string s,.string ⟨#[c]⟩] w fun e w'=>
    e=.returned (.slice (some ⟨w.heap.size,0,none⟩) (Lib.countB s ⟨#[c]⟩+1) (Lib.countB s ⟨#[c]⟩+1))∧w'=w.alloc (.cells ((Lib.splitB ⟨#[c]⟩ 0 (Lib.countB s ⟨#[c]⟩) s).map Value.string).toArray 9):=by
  have k:=genSplit_calls s c 0 (by decide) w hs
  go_enter Tryz.func115,Tryz.ntmps115
  go_wp2_with (go_at_call 114;refine k.mono ?_;rintro e w' ⟨rfl,hw⟩;rw [hw])
  go_ret
  exact ⟨rfl,rfl⟩
theorem after_calls (s:ByteArray) (c:UInt8) (w:World) (hs:s.size≤1048576):Calls Tryz.prog 70 #[.string s,.string ⟨#[c]⟩] w fun e w'=>
    e=.returned (.slice (some ⟨w.heap.size,0,none⟩) (Lib.countB s ⟨#[c]⟩+1) (Lib.countB s ⟨#[c]⟩+1))∧w'=w.alloc (.cells ((Lib.splitB ⟨#[c]⟩ 1 (Lib.countB s ⟨#[c]⟩) s).map Value.string).toArray 9):=by
  have k:=genSplit_calls s c 1 (by decide) w hs
  go_enter Tryz.func70,Tryz.ntmps70
  go_wp2_with (go_at_call 114;refine k.mono ?_;rintro e w' ⟨rfl,hw⟩;rw [hw])
  go_ret
  exact ⟨rfl,rfl⟩
theorem repL_strs (w:World):∀L:List ByteArray,RepL w M0 ((L.map V.str).flatMap V.cells) (L.map Value.string) []
  | []=>.nil
  | s::L=>.cons (V.str s) (.string s) [] _ _ [] (.str s) (repL_strs w L)
theorem con_pieces {P:Program} {f:FuncId} {s sep:ByteArray} {L:List ByteArray} {N:Nat} {t:TypeId} (hf:∃fn,P.funcs[f]? =some fn∧(fn.name == "runtime.NumGoroutine")=false∧fn.body.isNone=false) (hN:L.length=N) (h0:0 < N)
    (h:∀w,Calls P f #[.string s,.string sep] w fun e w'=>e=.returned (.slice (some ⟨w.heap.size,0,none⟩) N N)∧w'=w.alloc (.cells (L.map Value.string).toArray t)):Con P f [.str s,.str sep] [] (.ref 0) [.arr (L.map V.str) .flat]:=by
  refine con_left (O:=[]) (sz:=1) hf (.inl ⟨rfl,by intro e;have:=congrArg List.length e;rw [qln,List.length_nil] at this;omega⟩) (by decide) (fun y hy=>by obtain ⟨_,_,rfl⟩:=List.mem_map.1 hy;rfl) fun w vals μ ow vis hi=>⟨L.map Value.string,fun w'=>repL_strs w' L,fun v hv=>by obtain ⟨_,_,rfl⟩:=List.mem_map.1 hv;rfl,?_⟩
  have e0:vals.getD 0 undef=.string s:=by
    obtain ⟨bl,r0,_⟩:=hi.arg 0 _ rfl;generalize vals.getD 0 undef=x at r0⊢;cases r0;rfl
  have e1:vals.getD 1 undef=.string sep:=by
    obtain ⟨bl,r0,_⟩:=hi.arg 1 _ rfl;generalize vals.getD 1 undef=x at r0⊢;cases r0;rfl
  have hs:vals.size=2:=hi.sz;have hv:vals=#[.string s,.string sep]:=by
    rw [←e0,←e1];apply Array.ext
    · simpa using hs
    · intro i hi1 hi2
      simp at hi2;rcases (show i=0∨i=1 by omega) with rfl | rfl<;>simp [Array.getD,hs]
  subst hv;refine (h w).mono ?_;rintro e w' ⟨rfl,rfl⟩;have hold:∀b,b < w.heap.size→(w.alloc (.cells (L.map Value.string).toArray t)).heap[b]? =w.heap[b]? :=fun b hb=>Below.heap_alloc _ _ _ hb
  refine ⟨⟨w.heap.size,0,N,(L.map Value.string).toArray,t,by rw [qln,hN],by rw [qln,hN];exact qlf _,by simp [hN],.inr (qlf _),?_,fun j x hj=> ?_⟩,by simp,fun b hb _=>hold b hb,rfl,rfl,rfl,fun x hx=>by simp only [World.frozen?,hold x.block hx]⟩
  · show (w.heap.push _)[w.heap.size]? =_
    simp
  · rw [Nat.zero_add,List.getElem?_toArray];exact hj
theorem piece_len (s:ByteArray) (c:UInt8) (sv:Nat):(Lib.splitB ⟨#[c]⟩ sv (Lib.countB s ⟨#[c]⟩) s).length=Lib.countB s ⟨#[c]⟩+1:=Lib.splitB_all ⟨#[c]⟩ (qlf 1) sv _ s rfl
theorem split_con (s:ByteArray) (c:UInt8) (hs:s.size≤1048576):Con Tryz.prog 115 [.str s,.str ⟨#[c]⟩] [] (.ref 0) [.arr ((spB s c).map V.str) .flat]:=
  con_pieces ⟨_,Tryz.func115,rfl,rfl⟩ (piece_len s c 0) (Nat.succ_pos _) fun w=>split_calls s c w hs
theorem after_con (s:ByteArray) (c:UInt8) (hs:s.size≤1048576):Con Tryz.prog 70 [.str s,.str ⟨#[c]⟩] [] (.ref 0) [.arr ((saB s c).map V.str) .flat]:=
  con_pieces ⟨_,Tryz.func70,rfl,rfl⟩ (piece_len s c 1) (Nat.succ_pos _) fun w=>after_calls s c w hs
def trimB (s:ByteArray) (c:UInt8):ByteArray:=⟨(Lib.trimSuffix s.data.toList [c]).toArray⟩
theorem trim_con (s:ByteArray) (c:UInt8) (hs:s.size≤1048576):Con Tryz.prog 72 [.str s,.str ⟨#[c]⟩] [] (.str (trimB s c)) []:=
  con_str2 ⟨_,Tryz.func72,rfl,rfl⟩ (fun w μ=>.str _) (fun w=>Tryz.strings_TrimSuffix s ⟨#[c]⟩ w (by omega))
end
theorem decFrom_snoc {b:UInt8} {d:Nat} (hd:Lib.digitVal b=some d):∀(l:List UInt8) (acc n:Nat),Lib.decFrom acc l=some n→Lib.decFrom acc (l++[b])=some (n * 10+d)
  | [],acc,n,h=>by
    have:acc=n:=by simpa [Lib.decFrom] using h
    subst this;simp [Lib.decFrom,hd]
  | a ::t,acc,n,h=>by
    simp only [Lib.decFrom,List.cons_append] at h⊢;cases ha:Lib.digitVal a with
    | none=>simp [ha] at h
    | some e=>
      simp only [ha] at h⊢;exact decFrom_snoc hd t _ n h
theorem dig_val {m:Nat} (h:m < 10):Lib.digitVal (UInt8.ofNat (48+m))=some m:=by
  have e:(UInt8.ofNat (48+m)).toNat=48+m:=by rw [UInt8.toNat_ofNat'];omega
  rw [Lib.digitVal,e,if_pos (by omega)];congr 1;omega
theorem dec_digits:∀n:Nat,Lib.decFrom 0 (Lib.decDigits n)=some n∧Lib.decDigits n≠[]:=by
  intro n
  induction n using Nat.strongRecOn with
  | ind n ih=>
    by_cases h:n < 10
    · rw [Lib.decDigits,dif_pos h]
      refine ⟨?_,by simp⟩;show (match Lib.digitVal (UInt8.ofNat (48+n)) with | some d=>Lib.decFrom (0 * 10+d) [] | none=>none)=_
      rw [dig_val h];show some (0 * 10+n)=some n
      congr 1;omega
    · rw [Lib.decDigits,dif_neg h]
      refine ⟨?_,by simp⟩;rw [decFrom_snoc (dig_val (Nat.mod_lt n (by omega))) _ _ _ (ih (n / 10) (by omega)).1]
      congr 1;omega
theorem toL_num (n:Nat):toL (numB n)=Lib.decDigits n:=rfl
theorem atoi_num (n:Nat):Lib.atoi (Lib.decDigits n)=some (n:Int):=by
  have h1:=dec_digits n;have h2:=numB_dig n;rw [toL_num] at h2;cases hq:Lib.decDigits n with
  | nil=>exact absurd hq h1.2
  | cons b r=>
    rw [hq] at h1 h2;have hb:=h2 b (qle ..);have e1:¬(b == 45)=true:=fun e=>by have e2:=beq_iff_eq.1 e;rw [e2] at hb;revert hb;decide
    have e2:¬(b == 43)=true:=fun e=>by have e2:=beq_iff_eq.1 e;rw [e2] at hb;revert hb;decide
    rw [Lib.atoi,if_neg e1,if_neg e2,Lib.decNat,if_neg (by simp),h1.1];rfl
theorem num_len {n:Int} (h:0≤n∧n≤99999):(Lib.decDigits n.toNat).length≤5:=by
  have:=num5 h;rw [←toL_len,toL_num] at this;exact this
theorem rd_num {n:Int} (h:0≤n∧n≤99999):rdB (numB n.toNat)=true∧rdV (numB n.toNat)=n:=by
  have hA:Lib.atoiAll (numB n.toNat).data.toList=.ok n:=by
    show Lib.atoiAll (Lib.decDigits n.toNat)=_;rw [Lib.atoiAll_short _ (by have:=num_len h;omega),atoi_num];show Lib.NumEnd.ok ((n.toNat:Nat):Int)=_
    congr 1;omega
  constructor
  · unfold rdB;rw [hA]
    show decide (itoaB n=_)=true;rw [decide_eq_true_eq,itoaB];exact itoa_nat h.1
  · unfold rdV;rw [hA]
theorem byteAt_toL (s:ByteArray) (k:Nat):byteAt s k=(((toL s).getD k 0).toNat:Int):=rfl
theorem byteAt_app {a b:ByteArray} {k:Nat} (h:k < a.size):byteAt (a++b) k=byteAt a k:=by
  rw [byteAt_toL,byteAt_toL,toL_app,qld,qld,qli (by rw [toL_len];exact h)]
theorem byteAt_last (a:ByteArray) (x:UInt8):byteAt (a++⟨#[x]⟩) a.size=(x.toNat:Int):=by
  rw [byteAt_toL,toL_app,qld,qlj (by rw [toL_len];exact qlf _),toL_len,Nat.sub_self];rfl
theorem valD_congr {s t:ByteArray}:∀i,(∀k,k < i→byteAt s k=byteAt t k)→valD s i=valD t i
  | 0,_=>rfl
  | i+1,h=>by rw [valD,valD,valD_congr i fun k hk=>h k (by omega),h i (by omega)]
theorem num_pos (n:Nat):1≤(numB n).size:=by
  have:=List.length_pos_iff.2 (dec_digits n).2;rw [←toL_num,toL_len] at this;exact this
theorem valD_num:∀n:Nat,valD (numB n) (numB n).size=(n:Int):=by
  intro n
  induction n using Nat.strongRecOn with
  | ind n ih=>
    have hd:∀m:Nat,m < 10→(UInt8.ofNat (48+m)).toNat=48+m:=fun m hm=>by rw [UInt8.toNat_ofNat'];omega
    by_cases h:n < 10
    · rw [numB_lt h]
      show 10 * (0:Int)+(((UInt8.ofNat (48+n)).toNat:Int) - 48)=_;rw [hd n h];omega
    · rw [numB_ge h,qlz]
      show valD _ ((numB (n / 10)).size+1)=_;rw [valD,byteAt_last,valD_congr _ (fun k hk=>byteAt_app hk),ih (n / 10) (by omega),hd (n % 10) (by omega)];omega
theorem num_first:∀n:Nat,1≤n→49≤byteAt (numB n) 0:=by
  intro n
  induction n using Nat.strongRecOn with
  | ind n ih=>
    intro h1;have hd:∀m:Nat,m < 10→(UInt8.ofNat (48+m)).toNat=48+m:=fun m hm=>by rw [UInt8.toNat_ofNat'];omega
    by_cases h:n < 10
    · rw [numB_lt h]
      show (49:Int)≤((UInt8.ofNat (48+n)).toNat:Int);rw [hd n h];omega
    · rw [numB_ge h,byteAt_app (num_pos _)]
      exact ih (n / 10) (by omega) (by omega)
theorem rdN_num {n:Int} (h:0≤n∧n≤99999):rdN (numB n.toNat)=n:=by
  have hs:=num5 h;have hp:=num_pos n.toNat;have hH:rdH (numB n.toNat)=true:=by
    simp only [rdH,Bool.and_eq_true,decide_eq_true_eq,Bool.not_eq_true',Bool.and_eq_false_imp,decide_eq_false_iff_not];refine ⟨⟨hp,by omega⟩,fun e=> ?_⟩;rcases qlp n.toNat 10 with q | q
    · rw [numB_lt q]
      show ¬1 < 1;omega
    · have:=num_first n.toNat (by omega)
      omega
  have hdg:∀k,k < (numB n.toNat).size→digAt (numB n.toNat) k=true:=fun k hk=>by
    have hk2:k < (toL (numB n.toNat)).length:=by rw [toL_len];exact hk
    have:=numB_dig n.toNat _ (List.getElem_mem hk2);have e:byteAt (numB n.toNat) k=(((toL (numB n.toNat))[k]).toNat:Int):=by rw [byteAt_toL,qld,qla hk2];rfl
    simp only [digAt,e,Bool.and_eq_true,decide_eq_true_eq];omega
  rw [rdN,if_pos ⟨hH,hdg⟩,valD_num];omega
end Go.Proofs.YtmhaafinhpopmaaGreatDoor
