/- What functions compute. No condition. -/
import Derived.Test.YtaefoaghpehbpaaGreatUz
import Derived.Test.YtaefoaghpehbpaaGreatUty
import Derived.Test.YtaefoaghpehbpaaGreatUmG
import Derived.Test.YtaefoaghpehbpaaGreatX13
import Derived.Test.YtaefoaghpehbpaaGreatX8
import Derived.Test.YtaefoaghpehbpaaGreatX6
import Derived.Test.YtaefoaghpehbpaaGreatX11
import Derived.Test.YtaefoaghpehbpaaGreatShelf
import Derived.Test.YtaefoaghpehbpaaGreatX1
set_option linter.unusedSimpArgs false
set_option linter.unusedVariables false
set_option linter.defProp false
namespace Go.Proofs.YtaefoaghpehbpaaGreat
open Go Go.Vm
set_option maxHeartbeats 8000000
theorem c46 (l:List ByteArray) (hl:l.length≤1048576):Con Tryz.prog 201 [.sl (l.map V.str)] [] (.ref 0) [.arr (l.map V.str) .flat]:=by
 have hns:(l.map V.str).all V.noSl=true:=by rw [List.all_map,List.all_eq_true];intro a _;rfl
 refine b05 [.tmp 2] [] Tryz.func201 rfl rfl rfl (by simp [Tryz.ntmps201]) ?_
 intro Q0 n0 r0
 simp only [Tryz.ntmps201,b0l,Nat.reduceAdd]
 have T:=Tys.mk (ai Ty.t9 Ty.t51)
 have F:=Fc.mk True.intro
 have F:=Fc.mk hns
 refine yR [0] ⟨?_⟩;refine b0c ?_;intros;refine b4y [0,4] ?_;intro K3 k3;refine b6n ⟨?_⟩;refine f7u ⟨?_⟩
 intro nb4 hnb4
 refine k3 _ ?_;refine zk ⟨?_⟩;refine b0d _ rfl ?_ ?_
 ·intro hc0
  have hnil:l=[]:=by cases l with | nil=>rfl | cons a b=>have:=hnb4 (by simp);rw [hc0] at this;cases this
  refine yR [2] ⟨?_⟩;refine zr ⟨?_⟩
  rw [hnil];exact b1t rfl rfl rfl
 ·intro hc0
  refine zn [0] ⟨?_⟩;refine yR [2] ⟨?_⟩;refine zr ⟨?_⟩
  exact b1t rfl rfl (by simp)
theorem b55 (l:List TI) (hl:l.length≤1048576) (hls:∀t∈l,t.2.2.2.length≤1048576):Con Tryz.prog 140 [.sl (l.map (fun t:TI=>V.agg [V.int .i64 t.1,V.int .i64 t.2.1,V.bool t.2.2.1,V.sl (t.2.2.2.map V.str)]))] [] (.ref 0) [.arr (l.map (fun t:TI=>V.agg [V.int .i64 t.1,V.int .i64 t.2.1,V.bool t.2.2.1,V.sl (t.2.2.2.map V.str)])) (b1v l.length)]:=by
 refine b05 [.tmp 2] [] Tryz.func140 rfl rfl rfl (by simp [Tryz.ntmps140]) ?_
 intro Q0 n0 r0
 simp only [Tryz.ntmps140,b0l,Nat.reduceAdd]
 have T:=Tys.mk (ai Ty.t3 (ai Ty.t4 (ai Ty.t9 (ai Ty.t33 (ai Ty.t51 Ty.t99)))))
 have F:=Fc.mk True.intro
 refine yR [0] ⟨?_⟩;refine yR [0,3] ⟨?_⟩;refine b0c ?_;intros;refine yR [3,6,7,8] ⟨?_⟩;refine b0g ?_;intros;refine b08 (fun i=>⟨[(3,.ref 0),(6,.sl (l.map (fun t:TI=>V.agg [V.int .i64 t.1,V.int .i64 t.2.1,V.bool t.2.2.1,V.sl (t.2.2.2.map V.str)]))),(7,.int .i64 l.length),(8,.int .i64 (Nat.cast i))],[.arr ((l.take i).map (fun t:TI=>V.agg [V.int .i64 t.1,V.int .i64 t.2.1,V.bool t.2.2.1,V.sl (t.2.2.2.map V.str)])) (b1v i)],false,22,0⟩) (fun i=>i≤l.length) (fun i=>l.length - i) 0 ?_ ?_ ?_
 ·refine b0b [3,6,7,8] [1] ⟨?_⟩
  rfl
 ·exact Nat.zero_le _
 ·rintro i hok6 Q6 n6 e6 r6
  have hi1:i≤l.length:=hok6
  refine yR [3,6,7,8,9] ⟨?_⟩;refine b0c ?_;intros;refine b0d _ rfl ?_ ?_
  ·intro hc0
   have hlt:i < l.length:=by omega
   obtain ⟨⟨x0,x1,x2,x3⟩,hx⟩:∃x:TI,l[i]? =some x:=⟨l[i]'(by omega),List.getElem?_eq_getElem (by omega)⟩
   have hlx:=hls _ (List.mem_of_getElem? hx)
   simp only [] at hlx
   have hsn:(l.take i).map (fun t:TI=>V.agg [V.int .i64 t.1,V.int .i64 t.2.1,V.bool t.2.2.1,V.sl (t.2.2.2.map V.str)])++[V.agg [V.int .i64 x0,V.int .i64 x1,V.bool x2,V.sl (x3.map V.str)]]=(l.take (i+1)).map (fun t:TI=>V.agg [V.int .i64 t.1,V.int .i64 t.2.1,V.bool t.2.2.1,V.sl (t.2.2.2.map V.str)]):=(b3n (f:=(fun t:TI=>V.agg [V.int .i64 t.1,V.int .i64 t.2.1,V.bool t.2.2.1,V.sl (t.2.2.2.map V.str)])) hx).symm
   have hti:(l.take i).length=i:=by rw [List.length_take];omega
   refine zn [3,6,7,8] ⟨?_⟩;refine b0c ?_;intros;refine b0g ?_;intros
   have F:=Fc.mk (ai (gdm hx) hti)
   refine yR [3,5,6,7,8] ⟨?_⟩;refine yRc [3,5,6,7,8] (c46 x3 hlx) ⟨?_⟩;refine yQ [3,6,7,8] ⟨?_⟩;refine yV ⟨?_⟩;refine n6 _ (i+1) ?_ ?_ ?_
   ·refine b0b [3,6,7,8] [5] ⟨?_⟩
    rw [←hsn];rfl
   ·exact hlt
   ·show _ < _;omega
  ·intro hc0
   have hend:i=l.length:=by omega
   subst hend
   refine zn [3] ⟨?_⟩;refine yR [2] ⟨?_⟩;refine zr ⟨?_⟩
   rw [List.take_length]
   exact b1t rfl (by unfold b1v;split<;>rfl) rfl
theorem b3p (l:List TI) (hl:l.length≤1048576) (hls:∀t∈l,t.2.2.2.length≤1048576):Con Tryz.prog 124 [.sl (l.map (fun t:TI=>V.agg [V.int .i64 t.1,V.int .i64 t.2.1,V.bool t.2.2.1,V.sl (t.2.2.2.map V.str)]))] [] (.ref 0) [.arr (l.map (fun t:TI=>V.agg [V.int .i64 t.1,V.int .i64 t.2.1,V.bool t.2.2.1,V.sl (t.2.2.2.map V.str)])) (b1v l.length)]:=by
 refine b05 [.tmp 2] [] Tryz.func124 rfl rfl rfl (by simp [Tryz.ntmps124]) ?_
 intro Q0 n0 r0
 simp only [Tryz.ntmps124,b0l,Nat.reduceAdd]
 have T:=Tys.mk (ai Ty.t3 (ai Ty.t4 (ai Ty.t9 (ai Ty.t33 (ai Ty.t51 Ty.t99)))))
 have F:=Fc.mk True.intro
 refine yR [0] ⟨?_⟩;refine yR [0,3] ⟨?_⟩;refine b0c ?_;intros;refine yR [3,6,7,8] ⟨?_⟩;refine b0g ?_;intros;refine b08 (fun i=>⟨[(3,.ref 0),(6,.sl (l.map (fun t:TI=>V.agg [V.int .i64 t.1,V.int .i64 t.2.1,V.bool t.2.2.1,V.sl (t.2.2.2.map V.str)]))),(7,.int .i64 l.length),(8,.int .i64 (Nat.cast i))],[.arr ((l.take i).map (fun t:TI=>V.agg [V.int .i64 t.1,V.int .i64 t.2.1,V.bool t.2.2.1,V.sl (t.2.2.2.map V.str)])) (b1v i)],false,23,0⟩) (fun i=>i≤l.length) (fun i=>l.length - i) 0 ?_ ?_ ?_
 ·refine b0b [3,6,7,8] [1] ⟨?_⟩
  rfl
 ·exact Nat.zero_le _
 ·rintro i hok6 Q6 n6 e6 r6
  have hi1:i≤l.length:=hok6
  refine yR [3,6,7,8,9] ⟨?_⟩;refine b0c ?_;intros;refine b0d _ rfl ?_ ?_
  ·intro hc0
   have hlt:i < l.length:=by omega
   obtain ⟨⟨x0,x1,x2,x3⟩,hx⟩:∃x:TI,l[i]? =some x:=⟨l[i]'(by omega),List.getElem?_eq_getElem (by omega)⟩
   have hlx:=hls _ (List.mem_of_getElem? hx)
   simp only [] at hlx
   have hsn:(l.take i).map (fun t:TI=>V.agg [V.int .i64 t.1,V.int .i64 t.2.1,V.bool t.2.2.1,V.sl (t.2.2.2.map V.str)])++[V.agg [V.int .i64 x0,V.int .i64 x1,V.bool x2,V.sl (x3.map V.str)]]=(l.take (i+1)).map (fun t:TI=>V.agg [V.int .i64 t.1,V.int .i64 t.2.1,V.bool t.2.2.1,V.sl (t.2.2.2.map V.str)]):=(b3n (f:=(fun t:TI=>V.agg [V.int .i64 t.1,V.int .i64 t.2.1,V.bool t.2.2.1,V.sl (t.2.2.2.map V.str)])) hx).symm
   have hti:(l.take i).length=i:=by rw [List.length_take];omega
   have hns:(x3.map V.str).all V.noSl=true:=by rw [List.all_map,List.all_eq_true];intro a _;rfl
   refine zn [3,6,7,8] ⟨?_⟩;refine b0c ?_;intros;refine b0g ?_;intros
   have F:=Fc.mk (ai (gdm hx) (ai hti hns))
   refine yR [3,5,6,7,8] ⟨?_⟩;refine yR [3,5,6,7,8] ⟨?_⟩;refine yQ [3,6,7,8] ⟨?_⟩;refine yV ⟨?_⟩;refine n6 _ (i+1) ?_ ?_ ?_
   ·refine b0b [3,6,7,8] [6] ⟨?_⟩
    rw [←hsn];rfl
   ·exact hlt
   ·show _ < _;omega
  ·intro hc0
   have hend:i=l.length:=by omega
   subst hend
   refine zn [3] ⟨?_⟩;refine yR [2] ⟨?_⟩;refine zr ⟨?_⟩
   rw [List.take_length]
   exact b1t rfl (by unfold b1v;split<;>rfl) rfl
theorem b3j (l:List TW) (hl:l.length≤1048576) (hls:∀t∈l,t.2.length≤1048576):Con Tryz.prog 59 [.sl (l.map (fun t:TW=>V.agg [V.int .i64 t.1,V.sl (t.2.map (V.int .i64))]))] [] (.ref 0) [.arr (l.map (fun t:TW=>V.agg [V.int .i64 t.1,V.sl (t.2.map (V.int .i64))])) (b1v l.length)]:=by
 refine b05 [.tmp 2] [] Tryz.func59 rfl rfl rfl (by simp [Tryz.ntmps59]) ?_
 intro Q0 n0 r0
 simp only [Tryz.ntmps59,b0l,Nat.reduceAdd]
 have T:=Tys.mk (ai Ty.t3 (ai Ty.t34 (ai Ty.t75 Ty.t102)))
 have F:=Fc.mk True.intro
 refine yR [0] ⟨?_⟩;refine yR [0,3] ⟨?_⟩;refine b0c ?_;intros;refine yR [3,6,7,8] ⟨?_⟩;refine b0g ?_;intros;refine b08 (fun i=>⟨[(3,.ref 0),(6,.sl (l.map (fun t:TW=>V.agg [V.int .i64 t.1,V.sl (t.2.map (V.int .i64))]))),(7,.int .i64 l.length),(8,.int .i64 (Nat.cast i))],[.arr ((l.take i).map (fun t:TW=>V.agg [V.int .i64 t.1,V.sl (t.2.map (V.int .i64))])) (b1v i)],false,23,0⟩) (fun i=>i≤l.length) (fun i=>l.length - i) 0 ?_ ?_ ?_
 ·refine b0b [3,6,7,8] [1] ⟨?_⟩
  rfl
 ·exact Nat.zero_le _
 ·rintro i hok6 Q6 n6 e6 r6
  have hi1:i≤l.length:=hok6
  refine yR [3,6,7,8,9] ⟨?_⟩;refine b0c ?_;intros;refine b0d _ rfl ?_ ?_
  ·intro hc0
   have hlt:i < l.length:=by omega
   obtain ⟨⟨x0,x1⟩,hx⟩:∃x:TW,l[i]? =some x:=⟨l[i]'(by omega),List.getElem?_eq_getElem (by omega)⟩
   have hlx:=hls _ (List.mem_of_getElem? hx)
   simp only [] at hlx
   have hsn:(l.take i).map (fun t:TW=>V.agg [V.int .i64 t.1,V.sl (t.2.map (V.int .i64))])++[V.agg [V.int .i64 x0,V.sl (x1.map (V.int .i64))]]=(l.take (i+1)).map (fun t:TW=>V.agg [V.int .i64 t.1,V.sl (t.2.map (V.int .i64))]):=(b3n (f:=(fun t:TW=>V.agg [V.int .i64 t.1,V.sl (t.2.map (V.int .i64))])) hx).symm
   have hti:(l.take i).length=i:=by rw [List.length_take];omega
   refine zn [3,6,7,8] ⟨?_⟩;refine b0c ?_;intro Q10 n10 e10 r10;refine b0g ?_;intro Q11 n11 x11 e11 r11
   have F:=Fc.mk (ai (gdm hx) hti)
   refine yR [3,5,6,7,8] ⟨?_⟩;refine b1p (by kernel_rfl) ?_;intro K13 q13 k13
   show b14 _ _ _ _ 10 (Array.replicate 10 false) _
   refine b0o q13 true 0 12 ?_;refine b0p q13 true 1 13 ?_;refine b1h q13 true 2 14 ?_;refine b0p q13 true 3 15 ?_;refine b1h q13 true 4 16 ?_;refine zoc 5 (c3l x1 hlx) ⟨?_⟩;refine b4n q13 true 6 18 ?_;refine b12 7 ⟨?_⟩;refine b0u 8 ⟨?_⟩;refine b0t 9 ⟨?_⟩;refine b0j (by kernel_rfl) ?_;refine k13 _ ?_;refine n11 _ ?_;refine n10 _ _ (b0f [3,6,7,8] _) ?_;refine zk ⟨?_⟩;refine yV ⟨?_⟩;refine n6 _ (i+1) ?_ ?_ ?_
   ·refine b0b [3,6,7,8] [5] ⟨?_⟩
    rw [←hsn];rfl
   ·exact hlt
   ·show _ < _;omega
  ·intro hc0
   have hend:i=l.length:=by omega
   subst hend
   refine zn [3] ⟨?_⟩;refine yR [2] ⟨?_⟩;refine zr ⟨?_⟩
   rw [List.take_length]
   exact b1t rfl (by unfold b1v;split<;>rfl) rfl
set_option maxRecDepth 8000 in
theorem c7l (fl:List TA) (ins:List TI) (ws:List TW) (hl:fl.length≤1048576) (hil:ins.length≤1048576) (hin:∀x∈ins,x.2.2.2.length≤1048576) (hwl:ws.length≤1048576) (hwn:∀x∈ws,x.2.length≤1048576):Con Tryz.prog 67 [.pv [.agg [.sl (fl.map (fun t:TA=>V.agg [V.str t.1,V.int .i64 t.2.1,V.int .i64 t.2.2.1,V.int .i64 t.2.2.2.1,V.int .i64 t.2.2.2.2])),.sl (ins.map (fun t:TI=>V.agg [V.int .i64 t.1,V.int .i64 t.2.1,V.bool t.2.2.1,V.sl (t.2.2.2.map V.str)])),.sl (ws.map (fun t:TW=>V.agg [V.int .i64 t.1,V.sl (t.2.map (V.int .i64))]))]] 0 0] [] (.agg [.ref 0,.ref 1,.ref 2]) [.arr (fl.map (fun t:TA=>V.agg [V.str t.1,V.int .i64 t.2.1,V.int .i64 t.2.2.1,V.int .i64 t.2.2.2.1,V.int .i64 t.2.2.2.2])) .flat,.arr (ins.map (fun t:TI=>V.agg [V.int .i64 t.1,V.int .i64 t.2.1,V.bool t.2.2.1,V.sl (t.2.2.2.map V.str)])) (b1v ins.length),.arr (ws.map (fun t:TW=>V.agg [V.int .i64 t.1,V.sl (t.2.map (V.int .i64))])) (b1v ws.length)]:=by
 refine b05 [.cell 2 36] [] Tryz.func67 rfl rfl rfl (by simp [Tryz.ntmps67]) ?_
 intro Q0 n0 r0
 simp only [Tryz.ntmps67,b0l,Nat.reduceAdd]
 have T:=Tys.mk (ai Ty.t3 (ai Ty.t4 (ai Ty.t9 (ai Ty.t32 (ai Ty.t33 (ai Ty.t34 (ai Ty.t36 (ai Ty.t51 (ai Ty.t75 (ai Ty.t96 (ai Ty.t99 Ty.t102)))))))))))
 have F:=Fc.mk True.intro
 refine yR [0,2] ⟨?_⟩;refine b0c ?_;intro Q2 n2 e2 r2;refine b1p (by kernel_rfl) ?_;intro K3 q3 k3
 show b14 _ _ _ _ 13 (Array.replicate 13 false) _
 refine b0o q3 true 0 6 ?_;refine b37 q3 true 1 7 ?_;refine b0p q3 true 2 8 ?_;refine b2w q3 true 3 9 ?_;refine b0o q3 true 5 11 ?_;refine b37 q3 true 6 12 ?_;refine b0p q3 true 7 13 ?_;refine b2w q3 true 8 14 ?_;refine b1s 4 11 rfl rfl (by kernel_rfl) ?_ ?_
 ·refine zsc (b78 fl hl) ⟨?_⟩
  refine b1s 9 11 rfl rfl (by kernel_rfl) ?_ ?_
  ·refine zsc (b55 ins hil hin) ⟨?_⟩
   refine b4n q3 true 10 16 ?_;refine d06 11 ⟨?_⟩;refine b2i 12 ⟨?_⟩;refine b0j (by kernel_rfl) ?_;refine k3 _ ?_;refine n2 _ _ (b0f [0,2,3] _) ?_;refine zk ⟨?_⟩;refine b0c ?_;intros;refine yR [2,3,20,21,22] ⟨?_⟩;refine b0g ?_;intros;refine b08 (fun i=>⟨[(2,.ptr 3 0 0),(3,.ptr 7 0 0),(20,.sl (ws.map (fun t:TW=>V.agg [V.int .i64 t.1,V.sl (t.2.map (V.int .i64))]))),(21,.int .i64 ws.length),(22,.int .i64 (Nat.cast i))],[.arr [] .flat,.arr [] .flat,.arr [] .flat,.box (.agg [.ref 0,.ref 1,.ref 2]) .mix,.arr (fl.map (fun t:TA=>V.agg [V.str t.1,V.int .i64 t.2.1,V.int .i64 t.2.2.1,V.int .i64 t.2.2.2.1,V.int .i64 t.2.2.2.2])) .flat,.arr (ins.map (fun t:TI=>V.agg [V.int .i64 t.1,V.int .i64 t.2.1,V.bool t.2.2.1,V.sl (t.2.2.2.map V.str)])) (b1v ins.length),.arr ((ws.take i).map (fun t:TW=>V.agg [V.int .i64 t.1,V.sl (t.2.map (V.int .i64))])) (b1v i),.box (.agg [.ref 4,.ref 5,.ref 6]) .mix],false,39,0⟩) (fun i=>i≤ws.length) (fun i=>ws.length - i) 0 ?_ ?_ ?_
   ·refine b4j [2,3,20,21,22] [0,1,2,3,4,5,10,9] ⟨?_⟩
    rfl
   ·exact Nat.zero_le _
   ·rintro i hok7 Q7 n7 e7 r7
    have hi1:i≤ws.length:=hok7
    refine yR [2,3,20,21,22,23] ⟨?_⟩;refine b0c ?_;intros;refine b0d _ rfl ?_ ?_
    ·intro hc0
     have hlt:i < ws.length:=by omega
     obtain ⟨⟨x0,x1⟩,hx⟩:∃x:TW,ws[i]? =some x:=⟨ws[i]'(by omega),List.getElem?_eq_getElem (by omega)⟩
     have hlx:=hwn _ (List.mem_of_getElem? hx)
     simp only [] at hlx
     have hsn:(ws.take i).map (fun t:TW=>V.agg [V.int .i64 t.1,V.sl (t.2.map (V.int .i64))])++[V.agg [V.int .i64 x0,V.sl (x1.map (V.int .i64))]]=(ws.take (i+1)).map (fun t:TW=>V.agg [V.int .i64 t.1,V.sl (t.2.map (V.int .i64))]):=(b3n (f:=(fun t:TW=>V.agg [V.int .i64 t.1,V.sl (t.2.map (V.int .i64))])) hx).symm
     have hti:(ws.take i).length=i:=by rw [List.length_take];omega
     refine zn [2,3,20,21,22] ⟨?_⟩;refine b0c ?_;intro Q11 n11 e11 r11;refine b0g ?_;intro Q12 n12 x12 e12 r12
     have F:=Fc.mk (ai (gdm hx) hti)
     refine yR [2,3,5,20,21,22] ⟨?_⟩;refine b1p (by kernel_rfl) ?_;intro K14 q14 k14
     show b14 _ _ _ _ 12 (Array.replicate 12 false) _
     refine b0p q14 true 0 26 ?_;refine b2w q14 true 1 27 ?_;refine b0p q14 true 2 28 ?_;refine b2w q14 true 3 29 ?_;refine b0p q14 true 4 30 ?_;refine b2w q14 true 5 31 ?_;refine zoc 6 (b5c x1 hlx) ⟨?_⟩;refine b4n q14 true 7 33 ?_;refine b12 8 ⟨?_⟩;refine b0u 9 ⟨?_⟩;refine b0p q14 true 10 36 ?_;refine b2i 11 ⟨?_⟩;refine b0j (by kernel_rfl) ?_;refine k14 _ ?_;refine n12 _ ?_;refine n11 _ _ (b0f [2,3,20,21,22] _) ?_;refine zk ⟨?_⟩;refine yV ⟨?_⟩;refine n7 _ (i+1) ?_ ?_ ?_
     ·refine b4j [2,3,20,21,22] [0,1,2,3,4,5,12,7] ⟨?_⟩
      rw [←hsn];rfl
     ·exact hlt
     ·show _ < _;omega
    ·intro hc0
     have hend:i=ws.length:=by omega
     subst hend
     refine zn [2,3] ⟨?_⟩;refine yR [2] ⟨?_⟩;refine zq3 ⟨?_⟩
     rw [List.take_length]
     exact rta
  ·refine b5j ⟨?_⟩
   refine zoc 9 (b55 ins hil hin) ⟨?_⟩;refine b4n q3 true 10 16 ?_;refine b2i 12 ⟨?_⟩;refine b0j (by kernel_rfl) ?_;refine k3 _ ?_;refine n2 _ _ (b0f [0,2,3] _) ?_;refine zk ⟨?_⟩;refine b0c ?_;intros;refine yR [2,3,20,21,22] ⟨?_⟩;refine b0g ?_;intros;refine b08 (fun i=>⟨[(2,.ptr 3 0 0),(3,.ptr 7 0 0),(20,.sl (ws.map (fun t:TW=>V.agg [V.int .i64 t.1,V.sl (t.2.map (V.int .i64))]))),(21,.int .i64 ws.length),(22,.int .i64 (Nat.cast i))],[.arr [] .flat,.arr [] .flat,.arr [] .flat,.box (.agg [.ref 0,.ref 1,.ref 2]) .mix,.arr (fl.map (fun t:TA=>V.agg [V.str t.1,V.int .i64 t.2.1,V.int .i64 t.2.2.1,V.int .i64 t.2.2.2.1,V.int .i64 t.2.2.2.2])) .flat,.arr (ins.map (fun t:TI=>V.agg [V.int .i64 t.1,V.int .i64 t.2.1,V.bool t.2.2.1,V.sl (t.2.2.2.map V.str)])) (b1v ins.length),.arr ((ws.take i).map (fun t:TW=>V.agg [V.int .i64 t.1,V.sl (t.2.map (V.int .i64))])) (b1v i),.box (.agg [.ref 4,.ref 5,.ref 6]) .mix],false,39,0⟩) (fun i=>i≤ws.length) (fun i=>ws.length - i) 0 ?_ ?_ ?_
   ·refine b4j [2,3,20,21,22] [0,1,2,3,4,9,10,8] ⟨?_⟩
    rfl
   ·exact Nat.zero_le _
   ·rintro i hok20 Q20 n20 e20 r20
    have hi1:i≤ws.length:=hok20
    refine yR [2,3,20,21,22,23] ⟨?_⟩;refine b0c ?_;intros;refine b0d _ rfl ?_ ?_
    ·intro hc0
     have hlt:i < ws.length:=by omega
     obtain ⟨⟨x0,x1⟩,hx⟩:∃x:TW,ws[i]? =some x:=⟨ws[i]'(by omega),List.getElem?_eq_getElem (by omega)⟩
     have hlx:=hwn _ (List.mem_of_getElem? hx)
     simp only [] at hlx
     have hsn:(ws.take i).map (fun t:TW=>V.agg [V.int .i64 t.1,V.sl (t.2.map (V.int .i64))])++[V.agg [V.int .i64 x0,V.sl (x1.map (V.int .i64))]]=(ws.take (i+1)).map (fun t:TW=>V.agg [V.int .i64 t.1,V.sl (t.2.map (V.int .i64))]):=(b3n (f:=(fun t:TW=>V.agg [V.int .i64 t.1,V.sl (t.2.map (V.int .i64))])) hx).symm
     have hti:(ws.take i).length=i:=by rw [List.length_take];omega
     refine zn [2,3,20,21,22] ⟨?_⟩;refine b0c ?_;intro Q24 n24 e24 r24;refine b0g ?_;intro Q25 n25 x25 e25 r25
     have F:=Fc.mk (ai (gdm hx) hti)
     refine yR [2,3,5,20,21,22] ⟨?_⟩;refine b1p (by kernel_rfl) ?_;intro K27 q27 k27
     show b14 _ _ _ _ 12 (Array.replicate 12 false) _
     refine b0p q27 true 0 26 ?_;refine b2w q27 true 1 27 ?_;refine b0p q27 true 2 28 ?_;refine b2w q27 true 3 29 ?_;refine b0p q27 true 4 30 ?_;refine b2w q27 true 5 31 ?_;refine zoc 6 (b5c x1 hlx) ⟨?_⟩;refine b4n q27 true 7 33 ?_;refine b12 8 ⟨?_⟩;refine b0u 9 ⟨?_⟩;refine b0p q27 true 10 36 ?_;refine b2i 11 ⟨?_⟩;refine b0j (by kernel_rfl) ?_;refine k27 _ ?_;refine n25 _ ?_;refine n24 _ _ (b0f [2,3,20,21,22] _) ?_;refine zk ⟨?_⟩;refine yV ⟨?_⟩;refine n20 _ (i+1) ?_ ?_ ?_
     ·refine b4j [2,3,20,21,22] [0,1,2,3,4,5,12,7] ⟨?_⟩
      rw [←hsn];rfl
     ·exact hlt
     ·show _ < _;omega
    ·intro hc0
     have hend:i=ws.length:=by omega
     subst hend
     refine zn [2,3] ⟨?_⟩;refine yR [2] ⟨?_⟩;refine zq3 ⟨?_⟩
     rw [List.take_length]
     exact rta
 ·refine b5j ⟨?_⟩
  refine zoc 4 (b78 fl hl) ⟨?_⟩;refine zoc 9 (b55 ins hil hin) ⟨?_⟩;refine b4n q3 true 10 16 ?_;refine b2i 12 ⟨?_⟩;refine b0j (by kernel_rfl) ?_;refine k3 _ ?_;refine n2 _ _ (b0f [0,2,3] _) ?_;refine zk ⟨?_⟩;refine b0c ?_;intros;refine yR [2,3,20,21,22] ⟨?_⟩;refine b0g ?_;intros;refine b08 (fun i=>⟨[(2,.ptr 3 0 0),(3,.ptr 7 0 0),(20,.sl (ws.map (fun t:TW=>V.agg [V.int .i64 t.1,V.sl (t.2.map (V.int .i64))]))),(21,.int .i64 ws.length),(22,.int .i64 (Nat.cast i))],[.arr [] .flat,.arr [] .flat,.arr [] .flat,.box (.agg [.ref 0,.ref 1,.ref 2]) .mix,.arr (fl.map (fun t:TA=>V.agg [V.str t.1,V.int .i64 t.2.1,V.int .i64 t.2.2.1,V.int .i64 t.2.2.2.1,V.int .i64 t.2.2.2.2])) .flat,.arr (ins.map (fun t:TI=>V.agg [V.int .i64 t.1,V.int .i64 t.2.1,V.bool t.2.2.1,V.sl (t.2.2.2.map V.str)])) (b1v ins.length),.arr ((ws.take i).map (fun t:TW=>V.agg [V.int .i64 t.1,V.sl (t.2.map (V.int .i64))])) (b1v i),.box (.agg [.ref 4,.ref 5,.ref 6]) .mix],false,39,0⟩) (fun i=>i≤ws.length) (fun i=>ws.length - i) 0 ?_ ?_ ?_
  ·refine b4j [2,3,20,21,22] [0,1,2,3,8,9,10,7] ⟨?_⟩
   rfl
  ·exact Nat.zero_le _
  ·rintro i hok33 Q33 n33 e33 r33
   have hi1:i≤ws.length:=hok33
   refine yR [2,3,20,21,22,23] ⟨?_⟩;refine b0c ?_;intros;refine b0d _ rfl ?_ ?_
   ·intro hc0
    have hlt:i < ws.length:=by omega
    obtain ⟨⟨x0,x1⟩,hx⟩:∃x:TW,ws[i]? =some x:=⟨ws[i]'(by omega),List.getElem?_eq_getElem (by omega)⟩
    have hlx:=hwn _ (List.mem_of_getElem? hx)
    simp only [] at hlx
    have hsn:(ws.take i).map (fun t:TW=>V.agg [V.int .i64 t.1,V.sl (t.2.map (V.int .i64))])++[V.agg [V.int .i64 x0,V.sl (x1.map (V.int .i64))]]=(ws.take (i+1)).map (fun t:TW=>V.agg [V.int .i64 t.1,V.sl (t.2.map (V.int .i64))]):=(b3n (f:=(fun t:TW=>V.agg [V.int .i64 t.1,V.sl (t.2.map (V.int .i64))])) hx).symm
    have hti:(ws.take i).length=i:=by rw [List.length_take];omega
    refine zn [2,3,20,21,22] ⟨?_⟩;refine b0c ?_;intro Q37 n37 e37 r37;refine b0g ?_;intro Q38 n38 x38 e38 r38
    have F:=Fc.mk (ai (gdm hx) hti)
    refine yR [2,3,5,20,21,22] ⟨?_⟩;refine b1p (by kernel_rfl) ?_;intro K40 q40 k40
    show b14 _ _ _ _ 12 (Array.replicate 12 false) _
    refine b0p q40 true 0 26 ?_;refine b2w q40 true 1 27 ?_;refine b0p q40 true 2 28 ?_;refine b2w q40 true 3 29 ?_;refine b0p q40 true 4 30 ?_;refine b2w q40 true 5 31 ?_;refine zoc 6 (b5c x1 hlx) ⟨?_⟩;refine b4n q40 true 7 33 ?_;refine b12 8 ⟨?_⟩;refine b0u 9 ⟨?_⟩;refine b0p q40 true 10 36 ?_;refine b2i 11 ⟨?_⟩;refine b0j (by kernel_rfl) ?_;refine k40 _ ?_;refine n38 _ ?_;refine n37 _ _ (b0f [2,3,20,21,22] _) ?_;refine zk ⟨?_⟩;refine yV ⟨?_⟩;refine n33 _ (i+1) ?_ ?_ ?_
    ·refine b4j [2,3,20,21,22] [0,1,2,3,4,5,12,7] ⟨?_⟩
     rw [←hsn];rfl
    ·exact hlt
    ·show _ < _;omega
   ·intro hc0
    have hend:i=ws.length:=by omega
    subst hend
    refine zn [2,3] ⟨?_⟩;refine yR [2] ⟨?_⟩;refine zq3 ⟨?_⟩
    rw [List.take_length]
    exact rta
theorem d19 (fl:List TA) (ins:List TI) (ws:List TW) (hl:fl.length≤1048576) (hil:ins.length≤1048576) (hin:∀x∈ins,x.2.2.2.length≤1048576) (hwl:ws.length≤1048576) (hwn:∀x∈ws,x.2.length≤1048576):Con Tryz.prog 56 [.agg [.sl (fl.map (fun t:TA=>V.agg [V.str t.1,V.int .i64 t.2.1,V.int .i64 t.2.2.1,V.int .i64 t.2.2.2.1,V.int .i64 t.2.2.2.2])),.sl (ins.map (fun t:TI=>V.agg [V.int .i64 t.1,V.int .i64 t.2.1,V.bool t.2.2.1,V.sl (t.2.2.2.map V.str)])),.sl (ws.map (fun t:TW=>V.agg [V.int .i64 t.1,V.sl (t.2.map (V.int .i64))]))]] [] (.agg [.ref 0,.ref 1,.ref 2]) [.arr (fl.map (fun t:TA=>V.agg [V.str t.1,V.int .i64 t.2.1,V.int .i64 t.2.2.1,V.int .i64 t.2.2.2.1,V.int .i64 t.2.2.2.2])) .flat,.arr (ins.map (fun t:TI=>V.agg [V.int .i64 t.1,V.int .i64 t.2.1,V.bool t.2.2.1,V.sl (t.2.2.2.map V.str)])) (b1v ins.length),.arr (ws.map (fun t:TW=>V.agg [V.int .i64 t.1,V.sl (t.2.map (V.int .i64))])) (b1v ws.length)]:=by
 have hns:(fl.map (fun t:TA=>V.agg [V.str t.1,V.int .i64 t.2.1,V.int .i64 t.2.2.1,V.int .i64 t.2.2.2.1,V.int .i64 t.2.2.2.2])).all V.noSl=true:=by rw [List.all_map,List.all_eq_true];intro a _;rfl
 refine b05 [.cell 2 36] [] Tryz.func56 rfl rfl rfl (by simp [Tryz.ntmps56]) ?_
 intro Q0 n0 r0
 simp only [Tryz.ntmps56,b0l,Nat.reduceAdd]
 have T:=Tys.mk (ai Ty.t3 (ai Ty.t4 (ai Ty.t9 (ai Ty.t32 (ai Ty.t33 (ai Ty.t34 (ai Ty.t36 (ai Ty.t51 (ai Ty.t75 (ai Ty.t96 (ai Ty.t99 Ty.t102)))))))))))
 have F:=Fc.mk True.intro
 have F:=Fc.mk hns
 refine yR [1,2] ⟨?_⟩;refine b0c ?_;intro Q2 n2 e2 r2;refine b1p (by kernel_rfl) ?_;intro K3 q3 k3
 show b14 _ _ _ _ 12 (Array.replicate 12 false) _
 refine b0p q3 true 1 4 ?_;refine b2w q3 true 2 5 ?_;refine b0p q3 false 4 7 ?_;refine b0p q3 false 7 10 ?_;refine b58 0 5 8 rfl rfl rfl (by kernel_rfl) ?_ ?_ ?_
 ·refine b1u ⟨?_⟩
  refine b58 3 5 8 rfl rfl rfl (by kernel_rfl) ?_ ?_ ?_
  ·refine b2v ⟨?_⟩
   refine b2w q3 true 5 8 ?_;refine b2w q3 true 8 11 ?_;refine zoc 6 (b3p ins hil hin) ⟨?_⟩;refine zoc 9 (b3j ws hwl hwn) ⟨?_⟩;refine b4n q3 true 10 13 ?_;refine b2i 11 ⟨?_⟩;refine b0j (by kernel_rfl) ?_;refine k3 _ ?_;refine n2 _ _ (b0f [2] _) ?_;refine zq8 ⟨?_⟩
   exact rta
  ·refine c1q ⟨?_⟩
   refine b1s 3 8 rfl rfl (by kernel_rfl) ?_ ?_
   ·refine b2v ⟨?_⟩
    refine b2w q3 true 8 11 ?_;refine zoc 6 (b3p ins hil hin) ⟨?_⟩;refine zoc 9 (b3j ws hwl hwn) ⟨?_⟩;refine b4n q3 true 10 13 ?_;refine b2i 11 ⟨?_⟩;refine b0j (by kernel_rfl) ?_;refine k3 _ ?_;refine n2 _ _ (b0f [2] _) ?_;refine zq8 ⟨?_⟩
    exact rta
   ·refine c1q ⟨?_⟩
    refine b0u 3 ⟨?_⟩;refine zoc 6 (b3p ins hil hin) ⟨?_⟩;refine zoc 9 (b3j ws hwl hwn) ⟨?_⟩;refine b4n q3 true 10 13 ?_;refine b2i 11 ⟨?_⟩;refine b0j (by kernel_rfl) ?_;refine k3 _ ?_;refine n2 _ _ (b0f [2] _) ?_;refine zq8 ⟨?_⟩
    exact rta
  ·refine c1q ⟨?_⟩
   refine b1s 3 5 rfl rfl (by kernel_rfl) ?_ ?_
   ·refine b2v ⟨?_⟩
    refine b2w q3 true 5 8 ?_;refine zoc 6 (b3p ins hil hin) ⟨?_⟩;refine zoc 9 (b3j ws hwl hwn) ⟨?_⟩;refine b4n q3 true 10 13 ?_;refine b2i 11 ⟨?_⟩;refine b0j (by kernel_rfl) ?_;refine k3 _ ?_;refine n2 _ _ (b0f [2] _) ?_;refine zq8 ⟨?_⟩
    exact rta
   ·refine c1q ⟨?_⟩
    refine b0u 3 ⟨?_⟩;refine zoc 6 (b3p ins hil hin) ⟨?_⟩;refine zoc 9 (b3j ws hwl hwn) ⟨?_⟩;refine b4n q3 true 10 13 ?_;refine b2i 11 ⟨?_⟩;refine b0j (by kernel_rfl) ?_;refine k3 _ ?_;refine n2 _ _ (b0f [2] _) ?_;refine zq8 ⟨?_⟩
    exact rta
 ·refine c1q ⟨?_⟩
  refine b1s 0 8 rfl rfl (by kernel_rfl) ?_ ?_
  ·refine b1u ⟨?_⟩
   refine b1s 3 8 rfl rfl (by kernel_rfl) ?_ ?_
   ·refine b2v ⟨?_⟩
    refine b2w q3 true 8 11 ?_;refine zoc 6 (b3p ins hil hin) ⟨?_⟩;refine zoc 9 (b3j ws hwl hwn) ⟨?_⟩;refine b4n q3 true 10 13 ?_;refine b2i 11 ⟨?_⟩;refine b0j (by kernel_rfl) ?_;refine k3 _ ?_;refine n2 _ _ (b0f [2] _) ?_;refine zq8 ⟨?_⟩
    exact rta
   ·refine c1q ⟨?_⟩
    refine b0u 3 ⟨?_⟩;refine zoc 6 (b3p ins hil hin) ⟨?_⟩;refine zoc 9 (b3j ws hwl hwn) ⟨?_⟩;refine b4n q3 true 10 13 ?_;refine b2i 11 ⟨?_⟩;refine b0j (by kernel_rfl) ?_;refine k3 _ ?_;refine n2 _ _ (b0f [2] _) ?_;refine zq8 ⟨?_⟩
    exact rta
  ·refine c1q ⟨?_⟩
   refine b12 0 ⟨?_⟩;refine b0u 3 ⟨?_⟩;refine zoc 6 (b3p ins hil hin) ⟨?_⟩;refine zoc 9 (b3j ws hwl hwn) ⟨?_⟩;refine b4n q3 true 10 13 ?_;refine b2i 11 ⟨?_⟩;refine b0j (by kernel_rfl) ?_;refine k3 _ ?_;refine n2 _ _ (b0f [2] _) ?_;refine zq8 ⟨?_⟩
   exact rta
 ·refine c1q ⟨?_⟩
  refine b1s 0 5 rfl rfl (by kernel_rfl) ?_ ?_
  ·refine b1u ⟨?_⟩
   refine b1s 3 5 rfl rfl (by kernel_rfl) ?_ ?_
   ·refine b2v ⟨?_⟩
    refine b2w q3 true 5 8 ?_;refine zoc 6 (b3p ins hil hin) ⟨?_⟩;refine zoc 9 (b3j ws hwl hwn) ⟨?_⟩;refine b4n q3 true 10 13 ?_;refine b2i 11 ⟨?_⟩;refine b0j (by kernel_rfl) ?_;refine k3 _ ?_;refine n2 _ _ (b0f [2] _) ?_;refine zq8 ⟨?_⟩
    exact rta
   ·refine c1q ⟨?_⟩
    refine b0u 3 ⟨?_⟩;refine zoc 6 (b3p ins hil hin) ⟨?_⟩;refine zoc 9 (b3j ws hwl hwn) ⟨?_⟩;refine b4n q3 true 10 13 ?_;refine b2i 11 ⟨?_⟩;refine b0j (by kernel_rfl) ?_;refine k3 _ ?_;refine n2 _ _ (b0f [2] _) ?_;refine zq8 ⟨?_⟩
    exact rta
  ·refine c1q ⟨?_⟩
   refine b12 0 ⟨?_⟩;refine b0u 3 ⟨?_⟩;refine zoc 6 (b3p ins hil hin) ⟨?_⟩;refine zoc 9 (b3j ws hwl hwn) ⟨?_⟩;refine b4n q3 true 10 13 ?_;refine b2i 11 ⟨?_⟩;refine b0j (by kernel_rfl) ?_;refine k3 _ ?_;refine n2 _ _ (b0f [2] _) ?_;refine zq8 ⟨?_⟩
   exact rta
theorem c3u:b1v 0=.flat:=rfl
theorem f3x:Con Tryz.prog 242 [.ref 0,.int .i64 0,.int .i64 0] [.arr [] .flat] (.tup []) [.arr [] .flat]:=by
 refine b05 [] [] Tryz.func242 rfl rfl rfl (by simp [Tryz.ntmps242]) ?_
 intro Q0 n0 r0
 simp only [Tryz.ntmps242,b0l,Nat.reduceAdd]
 have T:=Tys.mk (ai Ty.t3 (ai Ty.t4 Ty.t75))
 have F:=Fc.mk True.intro
 refine yR [0,1,2,6] ⟨?_⟩;refine b0g ?_;intros;refine b08 (fun i=>⟨[(0,.ref 0),(1,.int .i64 0),(2,.int .i64 0),(6,.int .i64 1)],[.arr [] .flat],false,49,0⟩) (fun i=>True) (fun i=>0) () ?_ ?_ ?_
 ·refine b1a [0,1,2,6] ?_
  simp only [b0s,b0k,b0h,b0i,b0n,Nat.reduceEqDiff,reduceIte]
  all_goals rfl
 ·trivial
 ·rintro i hok3 Q3 n3 e3 r3
  have hok:True:=hok3
  refine b0c ?_;intros;refine yR [0,1,2,6,12] ⟨?_⟩;refine b1z _ rfl ?_ ?_
  ·intro hc0
   exfalso;simp at hc0
  ·intro hc0
   try simp only [zC,reduceCtorEq] at hc0
   refine zx ⟨?_⟩;refine zf ⟨?_⟩
   exact b4f rfl (by simp) rfl (by simp) (by simp [Blk.kindIs]) (.inl rfl)
theorem f4j (lim:Int):Con Tryz.prog 213 [.ref 0,.int .i64 0,.int .i64 0,.int .i64 lim] [.arr [] .flat] (.tup []) [.arr [] .flat]:=by
 refine b05 [] [(242,[0])] Tryz.func213 rfl rfl rfl (by simp [Tryz.ntmps213]) ?_
 intro Q0 n0 r0
 simp only [Tryz.ntmps213,b0l,Nat.reduceAdd]
 have T:=Tys.mk (ai Ty.t3 (ai Ty.t4 (ai Ty.t75 Ty.t249)))
 have F:=Fc.mk True.intro
 refine yR [0,1,2,3,8] ⟨?_⟩;refine yR [0,1,2,3,8,9] ⟨?_⟩;refine b0g ?_;intros;refine b08 (fun i=>⟨[(0,.ref 0),(1,.int .i64 0),(2,.int .i64 0),(3,.int .i64 lim),(8,.bool true),(9,.bool true)],[.arr [] .flat],false,134,0⟩) (fun i=>True) (fun i=>0) () ?_ ?_ ?_
 ·refine b1a [0,1,2,3,8,9] ?_
  simp only [b0s,b0k,b0h,b0i,b0n,Nat.reduceEqDiff,reduceIte]
  all_goals rfl
 ·trivial
 ·rintro i hok4 Q4 n4 e4 r4
  have hok:True:=hok4
  refine b0g ?_;intros;refine yR [0,1,2,3,8,9,10] ⟨?_⟩;refine b0c ?_;intros;refine yR [0,1,2,3,8,9,10,23] ⟨?_⟩;refine b1z _ rfl ?_ ?_
  ·intro hc0
   try simp only [zC,reduceCtorEq] at hc0
   refine yRl [] (f3x) ⟨?_⟩;refine zr ⟨?_⟩
   exact b4f rfl (by simp) rfl (by simp) (by simp [Blk.kindIs]) (.inl rfl)
  ·intro hc0
   exfalso;simp at hc0
set_option maxRecDepth 100000 in
theorem d5z:Con Tryz.prog 252 [.int .u64 0] [] (.int .i64 0) []:=by
 refine b05 [.tmp 2] [] Tryz.func252 rfl rfl rfl (by simp [Tryz.ntmps252]) ?_
 intro Q0 n0 r0
 simp only [Tryz.ntmps252,b0l,Nat.reduceAdd]
 have T:=Tys.mk (ai Ty.t3 (ai Ty.t5 (ai Ty.t9 (ai Ty.t146 Ty.t231))))
 have F:=Fc.mk True.intro
 refine yR [0,2] ⟨?_⟩;refine b0c ?_;intros;refine yR [0,2,4] ⟨?_⟩;refine b1z _ rfl ?_ ?_
 ·intro hc0
  exfalso;simp at hc0
 ·intro hc0
  try simp only [zC,reduceCtorEq] at hc0
  refine zn [0,2] ⟨?_⟩;refine b0c ?_;intros;refine yR [0,2,8] ⟨?_⟩;refine b1z _ rfl ?_ ?_
  ·intro hc1
   exfalso;simp at hc1
  ·intro hc1
   try simp only [zC,reduceCtorEq] at hc1
   refine zn [0,2] ⟨?_⟩;refine b0c ?_;intros;refine yR [0,2,14] ⟨?_⟩;refine b1z _ rfl ?_ ?_
   ·intro hc2
    exfalso;simp at hc2
   ·intro hc2
    try simp only [zC,reduceCtorEq] at hc2
    refine zn [0,2] ⟨?_⟩;refine b4y [2] ?_;intro K11 k11;refine zq5 ⟨?_⟩;refine c56 ⟨?_⟩;refine b5v ?_;intro K k
    simp only [zE,zL,zN,b03,b0w,b0m,Nat.reduceEqDiff,reduceIte,Nat.reduceLT,implies_true,forall_const,reduceCtorEq,V.ofValue,V.ofScalar,V.un,V.gd,b1k,aop,c1j,Int.toNat_natCast,Int.reduceToNat,Nat.reduceAdd,Nat.reduceLeDiff,Nat.reduceMul,Tryz.underlying9]
    repeat (refine ai (by first | decide | exact ⟨by decide,by decide⟩ | (intro _;exact ⟨by decide,by decide⟩) | rfl | exact ⟨_,rfl⟩) ?_)
    refine k _ ?_;clear k K;refine c56 ⟨?_⟩;refine d49 ⟨?_⟩;refine b30 ⟨?_⟩;refine k11 _ ?_;refine zq1 ⟨?_⟩
    exact b0a rfl (by rfl) (.inl rfl)
theorem f1q:Con Tryz.prog 214 [.int .u64 0] [] (.int .i64 0) []:=by
 refine b05 [.tmp 2] [] Tryz.func214 rfl rfl rfl (by simp [Tryz.ntmps214]) ?_
 intro Q0 n0 r0
 simp only [Tryz.ntmps214,b0l,Nat.reduceAdd]
 have T:=Tys.mk (ai Ty.t3 (ai Ty.t146 Ty.t231))
 have F:=Fc.mk True.intro
 refine yR [0] ⟨?_⟩;refine b0c ?_;intros;refine b1z _ rfl ?_ ?_
 ·intro hc0
  exfalso;simp at hc0
 ·intro hc0
  try simp only [zC,reduceCtorEq] at hc0
  refine zn [0] ⟨?_⟩;refine yRc [2] (d5z) ⟨?_⟩;refine zr ⟨?_⟩
  exact b0a rfl rfl (.inl rfl)
theorem f2q:Con Tryz.prog 160 [.ref 0] [.arr [] .flat] (.tup []) [.arr [] .flat]:=by
 refine b05 [] [(213,[0])] Tryz.func160 rfl rfl rfl (by simp [Tryz.ntmps160]) ?_
 intro Q0 n0 r0
 simp only [Tryz.ntmps160,b0l,Nat.reduceAdd]
 have T:=Tys.mk (ai Ty.t3 (ai Ty.t75 Ty.t231))
 have F:=Fc.mk True.intro
 refine yR [0,2] ⟨?_⟩;refine b4c ?_;intro K2 k2;refine zq5 ⟨?_⟩;refine b6n ⟨?_⟩;refine c56 ⟨?_⟩;refine zc (f1q) ⟨?_⟩;refine zcl (f4j 0) ⟨?_⟩;refine k2 _ ?_;refine n0 _ ?_;refine zf ⟨?_⟩
 exact b4f rfl (by simp) rfl (by simp) (by simp [Blk.kindIs]) (.inl rfl)
theorem d6h (zs:List Int) (hl:zs.length < 4611686018427387904):Con Tryz.prog 160 [.ref 0] [.arr (zs.map (V.int .i64)) .flat] (.tup []) [.arr ((b4l zs).map (V.int .i64)) .flat]:=by
  by_cases hne:zs=[]
  · subst hne
    have e:b4l []=[]:=List.length_eq_zero_iff.1 (c3k [])
    rw [e];exact f2q
  · exact f27 zs ⟨_,Tryz.func160,rfl,rfl⟩ hne (fun blk off cap w h1 h2=>Tryz.slices_Sort_int blk off cap zs w h1 h2 hl)
def f70 (s:Int):List Int:=if s=0 then [1,5] else if s=1 then [2,0] else if s=2 then [3,4] else if s=3 then [4] else if s=4 then [0,1,5] else [0]
def d4g (fl:List TA) (s:ByteArray) (t:Int):Bool:=decide (0≤b5a fl s) && (decide (0≤t) && decide (t≤5)) && decide (t∈f70 (stA fl s))
theorem d4i {s:St} {ls:List Nat} {id i off j:Nat} {cs cs':List V} (h:idx ls id=some j) (h2:b1l s ls cs=some cs'):b1l s ls (.ptr id i off::cs)=some (.ptr j i off::cs'):=by
  have e:b15 s ls (.ptr id i off)=some (.ptr j i off):=by cases i<;>simp [b15,b1g,h]
  rw [b1l,e,h2]
end Go.Proofs.YtaefoaghpehbpaaGreat
