/- What functions compute. No condition. -/
import Derived.Test.YtaefoaghpehbpaaGreatDoorUz
import Derived.Test.YtaefoaghpehbpaaGreatDoorUty
import Derived.Test.YtaefoaghpehbpaaGreatDoorUmG
import Derived.Test.YtaefoaghpehbpaaGreatDoorShelf
import Derived.Test.YtaefoaghpehbpaaGreatDoorX13
set_option linter.unusedSimpArgs false
set_option linter.unusedVariables false
set_option linter.defProp false
namespace Go.Proofs.YtaefoaghpehbpaaGreatDoor
open Go Go.Vm
theorem joinB_two (a b s:ByteArray):joinB [a,b] s=a++s++b:=by
  unfold joinB Lib.join
  apply ByteArray.ext
  simp [List.intercalate,ByteArray.data_append]
def catB (ws:List ByteArray):ByteArray:=ws.foldl (·++·) .empty
theorem foldB_acc:∀(ws:List ByteArray) (s:ByteArray),ws.foldl (·++·) s=s++catB ws
  | [],s=>by simp [catB]
  | w::ws,s=>by
    have h1:=foldB_acc ws (s++w)
    have h2:=foldB_acc ws (ByteArray.empty++w)
    unfold catB
    rw [List.foldl_cons,List.foldl_cons,h1,h2,ByteArray.empty_append,ByteArray.append_assoc]
theorem joinB_cat (ws:List ByteArray):joinB ws .empty=catB ws:=by
  have key:∀ws:List ByteArray,(catB ws).data.toList=(ws.map (·.data.toList)).flatten:=by
    intro ws
    induction ws with
    | nil=>rfl
    | cons w ws ih=>
      have:=foldB_acc ws (ByteArray.empty++w)
      unfold catB at ih⊢
      rw [List.foldl_cons,this,ByteArray.empty_append,ByteArray.data_append,Array.toList_append]
      unfold catB
      rw [ih];rfl
  have h2:∀ws:List (List UInt8),Lib.join ws []=ws.flatten:=by
    intro ws
    unfold Lib.join
    induction ws with
    | nil=>rfl
    | cons w ws ih=>cases ws<;>simp_all [List.intercalate]
  unfold joinB
  apply ByteArray.ext
  apply Array.ext'
  show Lib.join (ws.map (·.data.toList)) []=_
  rw [h2,key]
theorem join_size:∀(ws:List ByteArray) (sep:ByteArray) (m:Nat),(∀w∈ws,w.size≤m)→(Lib.join (ws.map (·.data.toList)) sep.data.toList).length≤ws.length * (m+sep.size)
  | [],_,_,_=>Nat.zero_le _
  | w ::ws,sep,m,h=>by
    have h1:=h w (List.mem_cons_self ..)
    have h2:=join_size ws sep m fun x hx=>h x (List.mem_cons_of_mem _ hx)
    have e1:w.data.toList.length=w.size:=rfl
    have e2:sep.data.toList.length=sep.size:=rfl
    unfold Lib.join at h2⊢
    rw [List.length_cons,Nat.add_mul]
    cases ws with
    | nil=>simp [List.intercalate] at h2⊢;omega
    | cons y ws=>
      simp [List.intercalate] at h2⊢
      omega
theorem joinB_size (ws:List ByteArray) (sep:ByteArray) (m:Nat) (h:∀w∈ws,w.size≤m):(joinB ws sep).size≤ws.length * (m+sep.size):=by
  have:=join_size ws sep m h
  have e:(joinB ws sep).size=(Lib.join (ws.map (·.data.toList)) sep.data.toList).length:=by
    show (Lib.join (ws.map (·.data.toList)) sep.data.toList).toArray.size=_
    exact List.size_toArray
  rw [e];exact this
def numS (l:List Int):List ByteArray:=l.map fun n=>numB n.toNat
theorem numS_size {l:List Int} (h:∀n∈l,0≤n∧n < 1000000000):∀w∈numS l,w.size≤9:=by
  intro w hw
  obtain ⟨n,hn,rfl⟩:=List.mem_map.1 hw
  have:=h n hn
  exact numB_size 9 _ (by omega) (by omega)
theorem snoc_str {a:List ByteArray} {x:ByteArray}:a.map V.str++[V.str x]=(a++[x]).map V.str:=by simp
theorem join_con (ws:List ByteArray) (sep:ByteArray) (hl:ws.length≤1048576) (hw:∀w∈ws,w.size≤1048576) (hs:sep.size≤1048576):Con Tryz.prog 67 [.sl (ws.map V.str),.str sep] [] (.str (joinB ws sep)) []:=by
  have hj:=join_size ws sep 1048576 hw
  have hb:(Lib.join (ws.map (·.data.toList)) sep.data.toList).length≤140737488355328:=Nat.le_trans hj (Nat.le_trans (Nat.mul_le_mul hl (Nat.add_le_add_left hs _)) (by decide))
  exact con_join ⟨_,Tryz.func67,rfl,rfl⟩ (fun a c w=>Tryz.strings_Join_none a c sep w) (fun b o c w h1 h2 h3=>Tryz.strings_Join b o c ws sep w h1 h2 (by omega) h3 hb)
set_option maxHeartbeats 1000000 in
theorem joinNumbers_con (l:List Int) (sep:ByteArray) (hl:l.length≤1048576) (hn:∀n∈l,0≤n∧n < 1000000000) (hs:sep.size≤1048576):Con Tryz.prog 69 [.str sep,.sl (l.map (V.int .i64))] [] (.str (joinB (numS l) sep)) []:=by
 refine v_con [.tmp 4] [] Tryz.func69 rfl rfl rfl (by simp [Tryz.ntmps69]) ?_
 intro Q0 n0 r0
 simp only [Tryz.ntmps69,envFrom,Nat.reduceAdd]
 have T:=Tys.mk (And.intro Ty.t3 (And.intro Ty.t9 (And.intro Ty.t47 Ty.t49)))
 have F:=Fc.mk True.intro
 refine v_seqR [0,1] ?_;intro K1 k1;refine zAssign ⟨?_⟩;refine k1 _ ?_;refine zk ⟨?_⟩;refine v_seqR [0,1,5] ?_;intro K2 k2;refine zAssign ⟨?_⟩;refine k2 _ ?_;refine zk ⟨?_⟩;refine v_seq ?_;intro Q3 n3 e3 r3;refine v_seqR [0,5,8,9,10] ?_;intro K4 k4;refine zq15 ⟨?_⟩;refine k4 _ ?_;refine zk ⟨?_⟩;refine v_block ?_;intro Q5 n5 x5 e5 r5;refine v_loop (fun p=>⟨[(0,.str sep),(5,.ref 0),(8,.sl (l.map (V.int .i64))),(9,.int .i64 l.length),(10,.int .i64 (Nat.cast p.1))],[.arr (p.2.map V.str) .flat],false,23,0⟩) (fun p=>p.1≤l.length∧p.2=numS (l.take p.1)) (fun p=>l.length - p.1) ((0,[]):Nat×List ByteArray) ?_ ?_ ?_
 ·refine weak_bothS [0,5,8,9,10] [0] ⟨?_⟩
  rfl
 ·exact ⟨Nat.zero_le _,rfl⟩
 ·rintro ⟨i,acc⟩ hok6 Q6 n6 e6 r6
  obtain ⟨hi1,hR⟩:=hok6
  simp only [] at hi1 hR⊢
  have hal:acc.length≤1048576:=by rw [hR,numS,List.length_map,List.length_take];omega
  have haw:∀w∈acc,w.size≤1048576:=by rw [hR];intro w hw;exact Nat.le_trans (numS_size (fun n h=>hn n (List.mem_of_mem_take h)) w hw) (by omega)
  refine v_seqR [0,5,8,9,10,11] ?_;intro K7 k7;refine zBinOp ⟨?_⟩;refine k7 _ ?_;refine zk ⟨?_⟩;refine v_seq ?_;intro Q8 n8 e8 r8;refine v_condS _ rfl ?_ ?_
  ·intro hc0
   have hlt:i < l.length:=by omega
   obtain ⟨x,hx⟩:∃x,l[i]? =some x:=⟨l[i],List.getElem?_eq_getElem hlt⟩
   have hxn:=hn x (List.mem_of_getElem? hx)
   refine v_skip ?_;refine n8 _ _ (weak_keep [0,5,8,9,10] _) ?_;refine zk ⟨?_⟩;refine v_seq ?_;intro Q10 n10 e10 r10;refine v_block ?_;intro Q11 n11 x11 e11 r11;refine v_seqR [0,5,7,8,9,10] ?_;intro K12 k12
   have F:=Fc.mk (fun f=>getD_map (f:=f) hx)
   refine zq25 ⟨?_⟩;refine k12 _ ?_;refine zk ⟨?_⟩;refine v_region ?_;intro K13 k13;refine zq2 ⟨?_⟩;refine zc (itoa_con x hxn) ⟨?_⟩;refine zBuildSlice ⟨?_⟩;refine zAppend ⟨?_⟩;refine zAssign ⟨?_⟩;refine k13 _ ?_;refine n11 _ ?_;refine n10 _ _ (weak_keep [0,5,8,9,10] _) ?_;refine zk ⟨?_⟩;refine v_region ?_;intro K14 k14;refine zq5 ⟨?_⟩;refine k14 _ ?_;refine n6 _ (i+1,acc++[numB x.toNat]) ?_ ?_ ?_
   ·refine weak_bothS [0,5,8,9,10] [2] ⟨?_⟩
    rw [snoc_str];rfl
   ·exact ⟨hlt,by show acc++_=numS (l.take (i+1));rw [hR,List.take_add_one,hx];simp [numS]⟩
   ·show _ < _;show l.length - (i+1) < l.length - i;omega
  ·intro hc0
   have hend:acc=numS l:=by rw [hR,List.take_of_length_le (by omega)]
   refine v_exit ?_;refine e8 _ _ ?_;refine e6 _ _ ?_;refine x5 _ ?_;refine n3 _ _ (weak_keep [0,5] _) ?_;refine zk ⟨?_⟩;refine v_seqR [4] ?_;intro K15 k15;refine zq2 ⟨?_⟩;refine zc (join_con acc sep hal haw hs) ⟨?_⟩;refine zAssign ⟨?_⟩;refine k15 _ ?_;refine zk ⟨?_⟩;refine v_ret ?_;refine r0 _ ?_;refine zf ⟨?_⟩
   exact ret_pure rfl (by rw [hend]) (.inl rfl)
end Go.Proofs.YtaefoaghpehbpaaGreatDoor
