/- What functions compute. No condition. -/
import Derived.Test.YtmhaafinhpopmaaGreatDoorX3
set_option linter.unusedSimpArgs false
set_option linter.unusedVariables false
set_option linter.defProp false
namespace Go.Proofs.YtmhaafinhpopmaaGreatDoor
open Go Go.Vm
set_option maxHeartbeats 8000000
theorem join_size:∀(ws:List ByteArray) (sep:ByteArray) (m:Nat),(∀w∈ws,w.size≤m)→(Lib.join (ws.map (·.data.toList)) sep.data.toList).length≤ws.length * (m+sep.size)
  | [],_,_,_=>qlo _
  | w ::ws,sep,m,h=>by
    have h1:=h w (qle ..);have h2:=join_size ws sep m fun x hx=>h x (qll _ hx)
    have e1:w.data.toList.length=w.size:=rfl;have e2:sep.data.toList.length=sep.size:=rfl;unfold Lib.join at h2⊢;rw [List.length_cons,Nat.add_mul];cases ws with
    | nil=>simp [List.intercalate] at h2⊢;omega
    | cons y ws=>
      simp [List.intercalate] at h2⊢;omega
def numS (l:List Int):List ByteArray:=l.map fun n=>numB n.toNat
theorem numS_size {l:List Int} (h:∀n∈l,0≤n∧n < 1000000000):∀w∈numS l,w.size≤9:=by
  intro w hw;obtain ⟨n,hn,rfl⟩:=List.mem_map.1 hw;have:=h n hn;exact numB_size 9 _ (by omega) (by omega)
theorem snoc_str {a:List ByteArray} {x:ByteArray}:a.map V.str++[V.str x]=(a++[x]).map V.str:=by simp
theorem join_con (ws:List ByteArray) (sep:ByteArray) (hl:ws.length≤1048576) (hw:∀w∈ws,w.size≤1048576) (hs:sep.size≤1048576):Con Tryz.prog 162 [.sl (ws.map V.str),.str sep] [] (.str (joinB ws sep)) []:=by
  have hj:=join_size ws sep 1048576 hw;have hb:(Lib.join (ws.map (·.data.toList)) sep.data.toList).length≤140737488355328:=ql1 hj (ql1 (Nat.mul_le_mul hl (Nat.add_le_add_left hs _)) (by decide));exact con_join ⟨_,Tryz.func162,rfl,rfl⟩ (fun a c w=>Tryz.strings_Join_none a c sep w) (fun b o c w h1 h2 h3=>Tryz.strings_Join b o c ws sep w h1 h2 (by omega) h3 hb)
theorem joinNumbers_con (l:List Int) (sep:ByteArray) (hl:l.length≤1048576) (hn:∀n∈l,0≤n∧n < 1000000000) (hs:sep.size≤1048576):Con Tryz.prog 112 [.str sep,.sl (l.map (V.int .i64))] [] (.str (joinB (numS l) sep)) []:=by
 refine v_con [.tmp 4] [] Tryz.func112 rfl rfl rfl (by simp [Tryz.ntmps112]) ?_;intro Q0 n0 r0;simp only [Tryz.ntmps112,envFrom,Nat.reduceAdd];have T:=Tys.mk (ai Ty.t3 (ai Ty.t9 (ai Ty.t35 Ty.t59)));have F:=Fc.mk True.intro;refine yR [0,1] ⟨?_⟩;refine yR [0,1,5] ⟨?_⟩;refine v_seq ?_;intros;refine yR [0,5,8,9,10] ⟨?_⟩;refine v_block ?_;intros;refine v_loop (fun p=>⟨[(0,.str sep),(5,.ref 0),(8,.sl (l.map (V.int .i64))),(9,.int .i64 l.length),(10,.int .i64 (Nat.cast p.1))],[.arr (p.2.map V.str) .flat],false,23,0⟩) (fun p=>p.1≤l.length∧p.2=numS (l.take p.1)) (fun p=>l.length - p.1) ((0,[]):Nat×List ByteArray) ?_ ?_ ?_
 ·refine weak_bothS [0,5,8,9,10] [0] ⟨?_⟩;rfl
 ·exact ⟨qlo _,rfl⟩
 ·rintro ⟨i,acc⟩ hok6 Q6 n6 e6 r6;obtain ⟨hi1,hR⟩:=hok6;simp only [] at hi1 hR⊢;have hal:acc.length≤1048576:=by rw [hR,numS,qln,qlk];omega
  have haw:∀w∈acc,w.size≤1048576:=by rw [hR];intro w hw;exact ql1 (numS_size (fun n h=>hn n (qlv h)) w hw) (by omega)
  refine yR [0,5,8,9,10,11] ⟨?_⟩;refine v_seq ?_;intros;refine v_condS _ rfl ?_ ?_
  ·intro hc0;have hlt:i < l.length:=by omega
   obtain ⟨x,hx⟩:∃x,l[i]? =some x:=⟨l[i],qla hlt⟩;have hxn:=hn x (qlb hx);refine zn [0,5,8,9,10] ⟨?_⟩;refine v_seq ?_;intros;refine v_block ?_;intros;have F:=Fc.mk (gdm hx);refine yR [0,5,7,8,9,10] ⟨?_⟩;refine yQc [0,5,8,9,10] (itoa_con x hxn) ⟨?_⟩;refine yV ⟨?_⟩;refine n6 _ (i+1,acc++[numB x.toNat]) ?_ ?_ ?_
   ·refine weak_bothS [0,5,8,9,10] [2] ⟨?_⟩;rw [snoc_str];rfl
   ·exact ⟨hlt,by show acc++_=numS (l.take (i+1));rw [hR,List.take_add_one,hx];simp [numS]⟩
   ·show _ < _;show l.length - (i+1) < l.length - i;omega
  ·intro hc0;have hend:acc=numS l:=by rw [hR,List.take_of_length_le (by omega)]
   refine zn [0,5] ⟨?_⟩;refine yRc [4] (join_con acc sep hal haw hs) ⟨?_⟩;refine zr ⟨?_⟩;exact ret_pure rfl (by rw [hend]) (.inl rfl)
end Go.Proofs.YtmhaafinhpopmaaGreatDoor
