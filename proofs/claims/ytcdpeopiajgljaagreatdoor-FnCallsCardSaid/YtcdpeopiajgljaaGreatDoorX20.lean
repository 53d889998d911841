/- What functions compute. No condition. -/
import Derived.Test.YtcdpeopiajgljaaGreatDoorUz
import Derived.Test.YtcdpeopiajgljaaGreatDoorUty
import Derived.Test.YtcdpeopiajgljaaGreatDoorUmG
import Derived.Test.YtcdpeopiajgljaaGreatDoorX15
import Derived.Test.YtcdpeopiajgljaaGreatDoorX10
set_option linter.unusedSimpArgs false
set_option linter.unusedVariables false
set_option linter.defProp false
namespace Go.Proofs.YtcdpeopiajgljaaGreatDoor
open Go Go.Vm
set_option maxHeartbeats 8000000
theorem implDistance_con (x0:Int) (x1:Int) (x2:Int) (x3:Int) (x4:Int) (y0:Int) (y1:Int) (y2:Int) (y3:Int) (y4:Int):Con Tryz.prog 19 [.agg [V.int .i64 x0,V.int .i64 x1,V.int .i64 x2,V.int .i64 x3,V.int .i64 x4],.agg [V.int .i64 y0,V.int .i64 y1,V.int .i64 y2,V.int .i64 y3,V.int .i64 y4]] [] (.tup [.int .i64 (diV (x0,x1,x2,x3,x4) (y0,y1,y2,y3,y4)),.bool (diB (x0,x1,x2,x3,x4) (y0,y1,y2,y3,y4))]) []:=by
 refine v_con [.tmp 4,.tmp 5] [] Tryz.func19 rfl rfl rfl (by simp [Tryz.ntmps19]) ?_
 intro Q0 n0 r0
 simp only [Tryz.ntmps19,envFrom,Nat.reduceAdd]
 have T:=Tys.mk (ai Ty.t3 (ai Ty.t4 Ty.t26))
 have F:=Fc.mk True.intro
 refine yR [2,3] ⟨?_⟩;refine v_seq ?_;intros;refine yRcg [2,3,13] (isCall_con x0 x1 x2 x3 x4) (isCall_con y0 y1 y2 y3 y4) ⟨?_⟩;refine v_condS _ rfl ?_ ?_
 ·intro hc0
  have hB:diB (x0,x1,x2,x3,x4) (y0,y1,y2,y3,y4)=false:=by
   cases hq:diB (x0,x1,x2,x3,x4) (y0,y1,y2,y3,y4) with
   |false=>rfl
   |true=>
    exfalso
    rw [diB,Bool.and_eq_true] at hq
    simp [hq.1,hq.2] at hc0
  refine yR [4,5] ⟨?_⟩;refine zr ⟨?_⟩
  exact ret_pure rfl (by rw [diV,hB];rfl) (.inl rfl)
 ·intro hc0
  have hq:cOne (x0,x1,x2,x3,x4)=true∧cOne (y0,y1,y2,y3,y4)=true:=by
   (try simp at hc0)
   first | exact hc0 | exact ⟨hc0.2,hc0.1⟩ | (refine ⟨?_,?_⟩<;>simp_all)
  have hx:=hq.1
  have hy:=hq.2
  have hB:diB (x0,x1,x2,x3,x4) (y0,y1,y2,y3,y4)=true:=by rw [diB,hx,hy];rfl
  refine zn [2,3] ⟨?_⟩;refine yRc [4,5] (distance_con x0 x1 x2 x3 x4 y0 y1 y2 y3 y4 hx hy) ⟨?_⟩;refine zr ⟨?_⟩
  exact ret_pure rfl (by rw [diV,if_pos hB,hB]) (.inl rfl)
theorem specDistance_con (x0:Int) (x1:Int) (x2:Int) (x3:Int) (x4:Int) (y0:Int) (y1:Int) (y2:Int) (y3:Int) (y4:Int):Con Tryz.prog 20 [.agg [V.int .i64 x0,V.int .i64 x1,V.int .i64 x2,V.int .i64 x3,V.int .i64 x4],.agg [V.int .i64 y0,V.int .i64 y1,V.int .i64 y2,V.int .i64 y3,V.int .i64 y4]] [] (.tup [.int .i64 (diV (x0,x1,x2,x3,x4) (y0,y1,y2,y3,y4)),.bool (diB (x0,x1,x2,x3,x4) (y0,y1,y2,y3,y4))]) []:=by
 refine v_con [.tmp 4,.tmp 5] [] Tryz.func20 rfl rfl rfl (by simp [Tryz.ntmps20]) ?_
 intro Q0 n0 r0
 simp only [Tryz.ntmps20,envFrom,Nat.reduceAdd]
 have T:=Tys.mk (ai Ty.t3 (ai Ty.t4 Ty.t26))
 have F:=Fc.mk True.intro
 refine yR [2,3] ⟨?_⟩;refine v_seq ?_;intros;refine yRcg [2,3,13] (clOne_con x0 x1 x2 x3 x4) (clOne_con y0 y1 y2 y3 y4) ⟨?_⟩;refine v_condS _ rfl ?_ ?_
 ·intro hc0
  have hB:diB (x0,x1,x2,x3,x4) (y0,y1,y2,y3,y4)=false:=by
   cases hq:diB (x0,x1,x2,x3,x4) (y0,y1,y2,y3,y4) with
   |false=>rfl
   |true=>
    exfalso
    rw [diB,Bool.and_eq_true] at hq
    simp [hq.1,hq.2] at hc0
  refine yR [4,5] ⟨?_⟩;refine zr ⟨?_⟩
  exact ret_pure rfl (by rw [diV,hB];rfl) (.inl rfl)
 ·intro hc0
  have hq:cOne (x0,x1,x2,x3,x4)=true∧cOne (y0,y1,y2,y3,y4)=true:=by
   (try simp at hc0)
   first | exact hc0 | exact ⟨hc0.2,hc0.1⟩ | (refine ⟨?_,?_⟩<;>simp_all)
  have hx:=hq.1
  have hy:=hq.2
  have hB:diB (x0,x1,x2,x3,x4) (y0,y1,y2,y3,y4)=true:=by rw [diB,hx,hy];rfl
  refine zn [2,3] ⟨?_⟩;refine yRc [4,5] (clFar_con x0 x1 x2 x3 x4 y0 y1 y2 y3 y4 hx hy) ⟨?_⟩;refine zr ⟨?_⟩
  exact ret_pure rfl (by rw [diV,if_pos hB,hB]) (.inl rfl)
end Go.Proofs.YtcdpeopiajgljaaGreatDoor
