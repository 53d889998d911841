/- What functions compute. No condition. -/
import Derived.Test.YtmbbjhopngejaaaGreatDoorUz
import Derived.Test.YtmbbjhopngejaaaGreatDoorUty
import Derived.Test.YtmbbjhopngejaaaGreatDoorShelf
set_option linter.unusedSimpArgs false
set_option linter.unusedVariables false
set_option linter.defProp false
namespace Go.Proofs.YtmbbjhopngejaaaGreatDoor
open Go Go.Vm
set_option maxHeartbeats 8000000
def b2v (s:ByteArray) (b:Int):Nat→List ByteArray×Nat
  | 0=>([],0)
  | i+1=>if b2e s i=b then ((b2v s b i).1++[s.extract (b2v s b i).2 i],i+1) else b2v s b i
def f8d (s:ByteArray) (b:Int):Nat→Nat
  | 0=>0
  | i+1=>f8d s b i+(if b2e s i=b then 1 else 0)
theorem c5i (s:ByteArray) (b:Int):∀i,(b2v s b i).2≤i
  | 0=>qlw _
  | i+1=>by
    have:=c5i s b i;rw [b2v];split
    · exact qlw _
    · omega
theorem c3r (s:ByteArray) (b:Int):∀i,(b2v s b i).1.length=f8d s b i
  | 0=>rfl
  | i+1=>by
    have:=c3r s b i;rw [b2v,f8d];split<;>simp [this]
theorem d1h (s:ByteArray) (b:Int):∀i,f8d s b i≤i
  | 0=>qlw _
  | i+1=>by
    have:=d1h s b i;rw [f8d];split<;>omega
theorem c2m (s:ByteArray) (b:Int) (hs:s.size≤4194304):Con Tryz.prog 110 [.str s,.int .u8 b] [] (.ref 0) [.arr (((b2v s b s.size).1++[s.extract (b2v s b s.size).2 s.size]).map V.str) .flat]:=by
 refine zcn [.tmp 4] [] Tryz.func110 Tryz.ntmps110 ⟨?_⟩;intro Q0 n0 r0;have T:=tq4 Ty.t3 Ty.t5 Ty.t9 Ty.t32;have F:=Fc.mk True.intro;refine yR [0,1] ⟨?_⟩;refine yR [0,1,5] ⟨?_⟩;refine yR [0,1,5,6] ⟨?_⟩;refine b0e ?_;intros;refine yR [0,1,5,6,7] ⟨?_⟩;refine b0i ?_;intros;refine b08 (fun i=>⟨[(0,.str s),(1,.int .u8 b),(5,.ref 0),(6,.int .i64 (Nat.cast (b2v s b i).2)),(7,.int .i64 (Nat.cast i))],[.arr ((b2v s b i).1.map V.str) .flat],false,34,0⟩) (fun i=>i≤s.size) (fun i=>s.size - i) 0 ?_ ?_ ?_
 ·refine b0d [0,1,5,6,7] [1] ⟨?_⟩;rfl
 ·exact qle _
 ·rintro i hok7 Q7 n7 e7 r7;have hi1:i≤s.size:=hok7;refine b0e ?_;intros;refine yR [0,1,5,6,7,11] ⟨?_⟩;refine b0a _ rfl ?_ ?_
  ·intro hc0;have hlt:i < s.size:=by omega
   have hfr:=c5i s b i;have hsl:=c3r s b i;have hcl:=d1h s b i;have hal:(b2v s b i).1.length≤i:=by omega
   refine zn [0,1,5,6,7] ⟨?_⟩;refine b0e ?_;intros;refine b0i ?_;intros;refine yR [0,1,5,6,7,18] ⟨?_⟩;refine b0a _ rfl ?_ ?_
   ·intro hc1;have hst1:b2v s b (i+1)=((b2v s b i).1++[s.extract (b2v s b i).2 i],i+1):=by rw [b2v,if_pos hc1]
    refine yR [0,1,5,7] ⟨?_⟩;refine yQ [0,1,5,6,7] ⟨?_⟩;refine yV ⟨?_⟩;refine n7 _ (i+1) ?_ ?_ ?_
    ·refine b0d [0,1,5,6,7] [2] ⟨?_⟩;simp only [aQ,fQ,hst1,List.map_append,List.map_cons,List.map_nil];try rfl
    ·exact hlt
    ·show _ < _;omega
   ·intro hc1;have hst0:b2v s b (i+1)=b2v s b i:=by rw [b2v,if_neg hc1]
    refine zn [0,1,5,6,7] ⟨?_⟩;refine yV ⟨?_⟩;refine n7 _ (i+1) ?_ ?_ ?_
    ·refine b0d [0,1,5,6,7] [0] ⟨?_⟩;simp only [hst0];rfl
    ·exact hlt
    ·show _ < _;omega
  ·intro hc0;have hend:i=s.size:=by omega
   subst hend;have hfr:=c5i s b s.size;have hsl:=c3r s b s.size;have hcl:=d1h s b s.size;have hal:(b2v s b s.size).1.length≤s.size:=by omega
   refine zn [0,5,6] ⟨?_⟩;refine yR [4] ⟨?_⟩;refine zr ⟨?_⟩;simp only [aQ,fQ,List.map_append,List.map_cons,List.map_nil];exact b6i rfl (.inl rfl)
end Go.Proofs.YtmbbjhopngejaaaGreatDoor
