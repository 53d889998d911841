/- What functions compute. No condition. -/
import Derived.Test.YtmhaafinhpopmaaGreatDoorX24
import Derived.Test.YtmhaafinhpopmaaGreatDoorX8
set_option linter.unusedSimpArgs false
set_option linter.unusedVariables false
set_option linter.defProp false
namespace Go.Proofs.YtmhaafinhpopmaaGreatDoor
open Go Go.Vm
set_option maxHeartbeats 8000000
theorem splitB_sz (sep:ByteArray) (sv m:Nat):∀(k:Nat) (s:ByteArray),s.size≤m→∀x∈Lib.splitB sep sv k s,x.size≤m
  | 0,s,h,x,hx=>by
    rw [Lib.splitB,qlq] at hx;rw [hx];exact h
  | k + 1,s,h,x,hx=>by
    rw [Lib.splitB] at hx;split at hx
    · rw [qlq] at hx
      rw [hx];exact h
    · rcases ql4.1 hx with e | e
      · rw [e,ByteArray.size_extract];omega
      · exact splitB_sz sep sv m k _ (by rw [ByteArray.size_extract];omega) x e
theorem spB_sz {s:ByteArray} {c:UInt8} {m:Nat} (h:s.size≤m):∀x∈spB s c,x.size≤m:=splitB_sz _ _ m _ s h
theorem saB_sz {s:ByteArray} {c:UInt8} {m:Nat} (h:s.size≤m):∀x∈saB s c,x.size≤m:=splitB_sz _ _ m _ s h
def rnB (s:ByteArray):Bool:=(spB s 44).all rdB
def rnR (s:ByteArray):List Int:=if rnB s=true then (spB s 44).map rdV else []
theorem spB_len {s:ByteArray} (c:UInt8) (h:s.size≤1048575):(spB s c).length≤1048576:=by
  have h1:=piece_len s c 0;have h2:=Lib.countB_le ⟨#[c]⟩ (qlf 1) s.size s (qlf _);rw [spB,h1];omega
theorem saB_len {s:ByteArray} (c:UInt8) (h:s.size≤1048575):(saB s c).length≤1048576:=by
  have h1:=piece_len s c 1;have h2:=Lib.countB_le ⟨#[c]⟩ (qlf 1) s.size s (qlf _);rw [saB,h1];omega
set_option maxRecDepth 8000 in
theorem readNumbers_con (s:ByteArray) (hs:s.size≤100000):Con Tryz.prog 71 [.str s,.str (⟨#[44]⟩:ByteArray)] [] (.tup [.ref 0,.bool (rnB s)]) [.arr ((rnR s).map (V.int .i64)) .flat]:=by
 have hsl:=spB_len 44 (s:=s) (by omega);have hsz:=spB_sz (c:=44) hs;refine v_con [.tmp 4,.tmp 5] [] Tryz.func71 rfl rfl rfl (by simp [Tryz.ntmps71]) ?_;intro Q0 n0 r0;simp only [Tryz.ntmps71,envFrom,Nat.reduceAdd];have T:=Tys.mk (ai Ty.t3 (ai Ty.t4 (ai Ty.t9 (ai Ty.t35 Ty.t59))));have F:=Fc.mk True.intro;refine yR [0,1] ⟨?_⟩;refine yR [0,1,6] ⟨?_⟩;refine v_seq ?_;intros;refine yRc [6,13,14,15] (split_con s 44 (by omega)) ⟨?_⟩;refine v_block ?_;intros;refine v_loop (fun i=>⟨[(6,.ref 0),(13,.ref 1),(14,.int .i64 (spB s 44).length),(15,.int .i64 (Nat.cast i))],[.arr ((((spB s 44).take i).map rdV).map (V.int .i64)) .flat,.arr ((spB s 44).map V.str) .flat],false,32,0⟩) (fun i=>i≤(spB s 44).length∧((spB s 44).take i).all rdB=true) (fun i=>(spB s 44).length - i) (0:Nat) ?_ ?_ ?_
 ·refine weak_bothS [6,13,14,15] [1,2] ⟨?_⟩;rfl
 ·exact ⟨qlo _,rfl⟩
 ·rintro i hok6 Q6 n6 e6 r6;obtain ⟨hi1,hR⟩:=hok6;refine yR [6,13,14,15,16] ⟨?_⟩;refine v_seq ?_;intros;refine v_condS _ rfl ?_ ?_
  ·intro hc0;have hlt:i < (spB s 44).length:=by omega
   obtain ⟨x,hx⟩:∃x,(spB s 44)[i]? =some x:=⟨(spB s 44)[i],qla hlt⟩;have hxz:=hsz x (qlb hx);have hst:((spB s 44).take (i+1)).map rdV=((spB s 44).take i).map rdV++[rdV x]:=by rw [List.take_add_one,hx,ql5];rfl
   have htk:(((spB s 44).take i).map rdV).length=i:=by rw [qln,qlk];omega
   refine zn [6,13,14,15] ⟨?_⟩;refine v_seq ?_;intros;refine v_block ?_;intros;have F:=Fc.mk (gdm hx);refine yR [6,8,13,14,15] ⟨?_⟩;refine yRc [6,9,10,13,14,15] (readNumber_con x (by omega)) ⟨?_⟩;refine v_seq ?_;intros;refine yR [6,9,13,14,15,25] ⟨?_⟩;refine v_condS _ rfl ?_ ?_
   ·intro hc1;have hno:rdB x=false:=by simpa using hc1
    have hB:rnB s=false:=by
     rw [rnB,Bool.eq_false_iff];intro e;have:=ql3.1 e x (qlb hx);rw [hno] at this;cases this
    refine yR [4,5] ⟨?_⟩;refine zr ⟨?_⟩;have hz:rnR s=[]:=by rw [rnR,hB];rfl
    rw [hz,hB];exact ret_ref_tup rfl rfl rfl (.inl rfl)
   ·intro hc1;have hyes:rdB x=true:=by simpa using hc1
    refine zn [6,9,13,14,15] ⟨?_⟩;refine yQ [6,13,14,15] ⟨?_⟩;refine yV ⟨?_⟩;refine n6 _ (i+1) ?_ ?_ ?_
    ·refine weak_bothS [6,13,14,15] [3,1] ⟨?_⟩;rw [hst,ql5];rfl
    ·exact ⟨hlt,by rw [List.take_add_one,hx,List.all_append,hR,Bool.true_and];simp [hyes]⟩
    ·show _ < _;omega
  ·intro hc0;have hie:(spB s 44).take i=(spB s 44):=List.take_of_length_le (by omega);rw [hie] at hR;have hB:rnB s=true:=hR;rw [hie];refine zn [6] ⟨?_⟩;refine yR [4,5] ⟨?_⟩;refine zr ⟨?_⟩;have hz:rnR s=(spB s 44).map rdV:=by rw [rnR,if_pos hB]
   rw [hz,hB];exact ret_ref_tup rfl rfl rfl (.inl rfl)
end Go.Proofs.YtmhaafinhpopmaaGreatDoor
