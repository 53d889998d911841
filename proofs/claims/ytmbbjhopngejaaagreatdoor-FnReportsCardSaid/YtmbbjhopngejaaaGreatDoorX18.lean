/- What functions compute. No condition. -/
import Derived.Test.YtmbbjhopngejaaaGreatDoorUz
import Derived.Test.YtmbbjhopngejaaaGreatDoorUty
set_option linter.unusedSimpArgs false
set_option linter.unusedVariables false
set_option linter.defProp false
namespace Go.Proofs.YtmbbjhopngejaaaGreatDoor
open Go Go.Vm
set_option maxHeartbeats 8000000
theorem f6i (a:Int):0≤IntKind.i64.wrap (IntKind.u64.wrap ((BitVec.ofInt IntKind.u64.bits a &&& BitVec.ofInt IntKind.u64.bits 255).toNat:Int))∧IntKind.i64.wrap (IntKind.u64.wrap ((BitVec.ofInt IntKind.u64.bits a &&& BitVec.ofInt IntKind.u64.bits 255).toNat:Int))≤255:=by
  have h:(BitVec.ofInt IntKind.u64.bits a &&& BitVec.ofInt IntKind.u64.bits 255).toNat≤255:=by
    rw [BitVec.toNat_and];exact ql6 Nat.and_le_right (by decide)
  generalize (BitVec.ofInt IntKind.u64.bits a &&& BitVec.ofInt IntKind.u64.bits 255).toNat=n at h;have e:IntKind.u64.wrap (n:Int)=n:=by
    simp only [IntKind.wrap,IntKind.bits,IntKind.signed];simp;omega
  rw [e,c4c (by omega) (by omega)];omega
theorem f1r {x m:Int} (hx:0≤x) (hm:1 < m):0≤x.tmod m∧x.tmod m < m:=⟨Int.tmod_nonneg m hx,Int.tmod_lt_of_pos x (by omega)⟩
theorem d7t (code:List Int) (a s:Int) (hcode:∀x∈code,0≤x∧x≤255) (hcl:code.length≤9223372036854775807) (ha:0≤a∧a < 20000000000):b74 Tryz.prog 90 [.ptr 0 0 0] [cQ code a s] (fun r O'=>∃(v:Int) (a' s':Int),(0≤v∧v≤255)∧(a≤a'∧a'≤a+1)∧r=.int .i64 v∧O'=[cQ code a' s']):=by
 refine zcx [.tmp 2] [] Tryz.func90 Tryz.ntmps90 ⟨?_⟩;intro Q0 n0 r0;have T:=tq6 Ty.t3 Ty.t5 Ty.t22 Ty.t69 Ty.t71 Ty.t166;have F:=Fc.mk True.intro;refine yR [0] ⟨?_⟩;refine yR [0,3] ⟨?_⟩;refine b0e ?_;intro Q3 n3 e3 r3;refine b0e ?_;intro Q4 n4 e4 r4;refine b1f (by kernel_rfl) ?_;intro K5 q5 k5;show b1r _ _ _ _ 10 (Array.replicate 10 false) _;refine b0t q5 true 0 4 ?_;refine b3f q5 true 1 5 ?_;refine b0h q5 true 2 6 ?_;refine b1d q5 true 3 7 ?_;refine b0t q5 true 4 8 ?_;refine b3f q5 true 5 9 ?_;refine b0h q5 true 6 10 ?_;refine b1d q5 true 7 11 ?_;refine f0d q5 true 8 12 ?_;refine b19 q5 true 9 13 ?_;refine b0b (by kernel_rfl) ?_;refine k5 _ ?_;refine n4 _ _ (b0f [0,3,13] _) ?_;refine zk ⟨?_⟩;refine b0a _ rfl ?_ ?_
 ·intro hc0;have hlt:a.toNat < code.length:=by omega
  obtain ⟨x,hx⟩:∃x,code[a.toNat]? =some x:=⟨code[a.toNat],qla hlt⟩;have hxb:=hcode x (qlb hx);have hxw:IntKind.i64.wrap x=x:=c4c (by omega) (by omega);refine b1f (by kernel_rfl) ?_;intro K7 q7 k7;show b1r _ _ _ _ 12 (Array.replicate 12 false) _;have F:=fq2 (gdm hx) hxw;refine b0t q7 true 0 14 ?_;refine b3f q7 true 1 15 ?_;refine b0h q7 true 2 16 ?_;refine b1d q7 true 3 17 ?_;refine b0t q7 true 4 18 ?_;refine b3f q7 true 5 19 ?_;refine b0h q7 true 6 20 ?_;refine b1d q7 true 7 21 ?_;refine b1z q7 true 8 22 ?_;refine b1d q7 true 9 23 ?_;refine d34 q7 true 10 24 ?_;refine b0p 11 ⟨?_⟩;refine b0b (by kernel_rfl) ?_;refine k7 _ ?_;refine n3 _ _ (b0f [0,3] _) ?_;refine zk ⟨?_⟩;refine yR [0,3] ⟨?_⟩;refine yR [0,3] ⟨?_⟩;refine b0e ?_;intros;refine b0e ?_;intro Q11 n11 e11 r11;refine b1f (by kernel_rfl) ?_;intro K12 q12 k12;show b1r _ _ _ _ 10 (Array.replicate 10 false) _;refine b0t q12 true 0 44 ?_;refine b3f q12 true 1 45 ?_;refine b0h q12 true 2 46 ?_;refine b1d q12 true 3 47 ?_;refine b0t q12 true 4 48 ?_;refine b3f q12 true 5 49 ?_;refine b0h q12 true 6 50 ?_;refine b1d q12 true 7 51 ?_;refine f0d q12 true 8 52 ?_;refine b19 q12 true 9 53 ?_;refine b0b (by kernel_rfl) ?_;refine k12 _ ?_;refine n11 _ _ (b0f [0,3,53] _) ?_;refine zk ⟨?_⟩;refine b0a _ rfl ?_ ?_
  ·intro hc1;refine yR [2] ⟨?_⟩;refine zr ⟨?_⟩;refine b1a ?_;exact ⟨_,_,_,by omega,by omega,rfl,rfl⟩
  ·intro hc1;refine zn [0] ⟨?_⟩;refine yR [2] ⟨?_⟩;refine zr ⟨?_⟩;refine b1a ?_;exact ⟨_,_,_,f6i _,by omega,rfl,rfl⟩
 ·intro hc0;refine zn [0,3] ⟨?_⟩;refine yR [0,3] ⟨?_⟩;refine yR [0,3] ⟨?_⟩;refine b0e ?_;intros;refine b0e ?_;intro Q19 n19 e19 r19;refine b1f (by kernel_rfl) ?_;intro K20 q20 k20;show b1r _ _ _ _ 10 (Array.replicate 10 false) _;refine b0t q20 true 0 44 ?_;refine b3f q20 true 1 45 ?_;refine b0h q20 true 2 46 ?_;refine b1d q20 true 3 47 ?_;refine b0t q20 true 4 48 ?_;refine b3f q20 true 5 49 ?_;refine b0h q20 true 6 50 ?_;refine b1d q20 true 7 51 ?_;refine f0d q20 true 8 52 ?_;refine b19 q20 true 9 53 ?_;refine b0b (by kernel_rfl) ?_;refine k20 _ ?_;refine n19 _ _ (b0f [0,3,53] _) ?_;refine zk ⟨?_⟩;refine b0a _ rfl ?_ ?_
  ·intro hc2;refine yR [2] ⟨?_⟩;refine zr ⟨?_⟩;refine b1a ?_;exact ⟨_,_,_,by omega,by omega,rfl,rfl⟩
  ·intro hc2;refine zn [0] ⟨?_⟩;refine yR [2] ⟨?_⟩;refine zr ⟨?_⟩;refine b1a ?_;exact ⟨_,_,_,f6i _,by omega,rfl,rfl⟩
theorem b2d (code:List Int) (a s:Int) (m:Int) (hcode:∀x∈code,0≤x∧x≤255) (hcl:code.length≤9223372036854775807) (ha:0≤a∧a < 19000000000):b74 Tryz.prog 34 [.ptr 0 0 0,.int .i64 m] [cQ code a s] (fun r O'=>∃(v:Int) (a' s':Int),(0≤v∧(v < m∨(m≤1∧v=0)))∧(a≤a'∧a'≤a+2)∧r=.int .i64 v∧O'=[cQ code a' s']):=by
 refine zcx [.tmp 4] [(90,[0])] Tryz.func34 Tryz.ntmps34 ⟨?_⟩;intro Q0 n0 r0;have T:=tq6 Ty.t3 Ty.t5 Ty.t22 Ty.t68 Ty.t69 Ty.t71;have F:=Fc.mk True.intro;refine yR [0,1] ⟨?_⟩;refine b0e ?_;intros;refine yR [0,1,7] ⟨?_⟩;refine b0a _ rfl ?_ ?_
 ·intro hc0;refine yR [4] ⟨?_⟩;refine zr ⟨?_⟩;refine b1a ?_;exact ⟨0,_,_,by omega,by omega,rfl,rfl⟩
 ·intro hc0;refine zn [0,1] ⟨?_⟩;refine b1l [0,1,5] ?_;intro K6 k6;refine b15 ⟨?_⟩;refine zxl (d7t code a s hcode hcl (by omega)) ⟨?_⟩;rintro _ _ ⟨v9,a9,s9,h9,k9,rfl,rfl⟩;refine f6u ⟨?_⟩;refine k6 _ ?_;refine zk ⟨?_⟩;refine b0e ?_;intro Q7 n7 e7 r7;refine yR [0,1,5,11] ⟨?_⟩;refine b0a _ rfl ?_ ?_
  ·intro hc1;refine b2m ?_;intro K10 k10;refine b15 ⟨?_⟩;refine b6z ⟨?_⟩;refine b15 ⟨?_⟩;refine zxl (d7t code a9 s9 hcode hcl (by omega)) ⟨?_⟩;rintro _ _ ⟨v15,a15,s15,h15,k15,rfl,rfl⟩;refine zEl ⟨?_⟩;refine b6z ⟨?_⟩;refine b2l ⟨?_⟩;refine k10 _ ?_;refine n7 _ _ (b0f [1,5] _) ?_;refine zk ⟨?_⟩;refine yR [4] ⟨?_⟩;refine zr ⟨?_⟩;have hm1:1 < m:=by omega
   have ht:=f1r (x:=v9 * 256+v15) (m:=m) (by omega) hm1;refine b1a ?_;exact ⟨_,_,_,by omega,by omega,rfl,rfl⟩
  ·intro hc1;refine zn [1,5] ⟨?_⟩;refine yR [4] ⟨?_⟩;refine zr ⟨?_⟩;have hm1:1 < m:=by omega
   have ht:=f1r (x:=v9) (m:=m) (by omega) hm1;refine b1a ?_;exact ⟨_,_,_,by omega,by omega,rfl,rfl⟩
theorem b6c (code:List Int) (a s:Int) (m:Int) (hcode:∀x∈code,0≤x∧x≤255) (hcl:code.length≤9223372036854775807) (ha:0≤a∧a < 18000000000):b74 Tryz.prog 35 [.ptr 0 0 0,.int .i64 m] [cQ code a s] (fun r O'=>∃(v:Bool) (a' s':Int),(True)∧(a≤a'∧a'≤a+2)∧r=.bool v∧O'=[cQ code a' s']):=by
 refine zcx [.tmp 4] [(34,[0])] Tryz.func35 Tryz.ntmps35 ⟨?_⟩;intro Q0 n0 r0;have T:=tq6 Ty.t3 Ty.t5 Ty.t22 Ty.t68 Ty.t69 Ty.t71;have F:=Fc.mk True.intro;refine yR [0,1] ⟨?_⟩;refine b1l [4] ?_;intro K2 k2;refine zq5 ⟨?_⟩;refine zxl (b2d code a s (m) hcode hcl (by omega)) ⟨?_⟩;rintro _ _ ⟨v7,a7,s7,h7,k7,rfl,rfl⟩;refine zEl ⟨?_⟩;refine c0m ⟨?_⟩;refine b2l ⟨?_⟩;refine k2 _ ?_;refine zq2 ⟨?_⟩;refine b1a ?_;exact ⟨_,_,_,trivial,by omega,rfl,rfl⟩
theorem b3n (code:List Int) (a s:Int) (l:List Int) (hl:0 < l.length∧l.length≤1048576) (hcode:∀x∈code,0≤x∧x≤255) (hcl:code.length≤9223372036854775807) (ha:0≤a∧a < 18000000000):b74 Tryz.prog 85 [.ptr 0 0 0,.ref 1] [cQ code a s,.arr (l.map (V.int .i64)) .flat] (fun r O'=>∃(v:Int) (a' s':Int),(v∈l)∧(a≤a'∧a'≤a+2)∧r=.int .i64 v∧O'=[cQ code a' s',.arr (l.map (V.int .i64)) .flat]):=by
 refine zcx [.tmp 4] [(34,[0])] Tryz.func85 Tryz.ntmps85 ⟨?_⟩;intro Q0 n0 r0;have T:=tq7 Ty.t3 Ty.t5 Ty.t22 Ty.t35 Ty.t68 Ty.t69 Ty.t71;have F:=Fc.mk True.intro;refine yR [0,1] ⟨?_⟩;refine b1l [4] ?_;intro K2 k2;refine zq5 ⟨?_⟩;refine f6v ⟨?_⟩;refine zxl (b2d code a s ((l.length:Int)) hcode hcl (by omega)) ⟨?_⟩;rintro _ _ ⟨v9,a9,s9,h9,k9,rfl,rfl⟩;obtain ⟨x,hx⟩:∃x,l[v9.toNat]? =some x:=⟨l[v9.toNat]'(by omega),qla (by omega)⟩;refine zEl ⟨?_⟩;have F:=Fc.mk (gdm hx);refine f7z ⟨?_⟩;refine b2l ⟨?_⟩;refine k2 _ ?_;refine zq2 ⟨?_⟩;refine b1a ?_;exact ⟨_,_,_,qlb hx,by omega,rfl,rfl⟩
theorem f6q {c:List Int} (h:∀a∈c,(Lit.int .u8 a).wf=true):∀x∈c,0≤x∧x≤255:=by
  intro x hx;have:=h x hx;simp [Lit.wf,IntKind.min,IntKind.max,IntKind.signed,IntKind.bits] at this;omega
def b80 (ow:Ow) (id:Nat):Ow:=fun b=>match ow b with
  | some (r,j)=>if j=id then none else some (r,j)
  | none=>none
theorem b66 {ow:Ow} {id b:Nat} (h:b80 ow id b≠none):ow b≠none:=fun e=>h (by simp [b80,e])
theorem b9x {ow:Ow} {id b j:Nat} {r:Bool} (h:ow b=some (r,j)) (hj:j≠id):b80 ow id b=ow b:=by simp [b80,h,hj]
theorem c06 {ow:Ow} {id b:Nat} {r:Bool} (h:ow b=some (r,id)):b80 ow id b=none:=by simp [b80,h]
theorem b7v {cx:Cx} {ow:Ow} {vw:Bool} {b:Nat} (id:Nat) (h:VOK cx ow vw b):VOK cx (b80 ow id) vw b:=by
  refine ⟨?_,h.2⟩;rcases h.1 with e | ⟨v,j,e⟩
  · exact .inl (by simp [b80,e])
  · by_cases q:j=id
    · exact .inl (by subst q;exact c06 e)
    · exact .inr ⟨v,j,by rw [b9x e q];exact e⟩
theorem b84 {cx:Cx} {w:World} {μ:Nat→Option Vm.Loc} {ow:Ow} {vw:Bool} {id j:Nat} {xs:List V} {k:Kd} (hj:j≠id) (h:b48 cx w μ ow vw j xs k):b48 cx w μ (b80 ow id) vw j xs k:=by
  obtain ⟨l,h1,h2,h3⟩:=h;refine ⟨l,h1,h2,h3.imp (fun z=>z) fun ⟨a1,a2,bl,a3,a4,a5⟩=>⟨a1,(b9x a2 hj).trans a2,bl,a3,?_,a5⟩⟩;cases k with
  | flat=>exact a4
  | thin=>exact a4
  | deep | part=>exact ⟨a4.1,fun b hb=>(b9x (a4.2 b hb) hj).trans (a4.2 b hb)⟩
  | shal=>exact fun b hb=>b7v id (a4 b hb)
  | mix=>exact fun b hb=>b7v id (a4 b hb)
theorem c7u {m:Nat} {s:St} (t i:Nat) (xs:List V) (k:Kd) (ht:s.get t=.ref i) (hO:s.O[i]? =some (.arr xs k)) (hk:k=.flat∨k=.deep∨k=.thin):b6j m s {s with env:=(t,.sl xs)::s.env,O:=s.O.set i .dead}:=by
  intro cx a w μ ow hmu h;have hli:i < s.O.length:=(qlc.1 hO).1;have htc:b1y s (.ref i)=some (.sl xs,[i],false):=by
    simp only [b1y,St.row,hO,Option.bind_some,Blk.row];rcases hk with e | e | e<;>subst e<;>rfl
  refine ⟨μ,b80 ow i,h.dfr,h.sz,fun t2=> ?_,fun j bk e=> ?_,fun j hj=>h.dom j (by rwa [qlp] at hj),fun b hb=>h.owl b (b66 hb),fun b hb=>h.own b (b66 hb),h.frm,h.mu⟩
  · obtain ⟨bl,r1,r2⟩:=h.env t2
    show ∃bl,Rep w μ (Vm.look t2 ((t,V.sl xs)::s.env)) _ bl∧_;rw [b0j]
    by_cases q:t2=t
    · subst q
      rw [if_pos rfl];rw [ht] at r1;obtain ⟨bl',t1,_,_,t4,_⟩:=b7d h.sup r1 r2 htc;obtain ⟨_,own⟩:=t4 rfl;refine ⟨bl',t1.keep (MLe.zero μ) fun _ _=>rfl,fun b hb=> ?_⟩;obtain ⟨j,hj,r,e⟩:=own b hb;rw [qlk] at hj;subst hj;exact ⟨.inl (c06 e),.inr (h.own b (by rw [e];simp))⟩
    · rw [if_neg q]
      exact ⟨bl,r1,fun b hb=>b7v i (r2 b hb)⟩
  · have e2:(s.O.set i .dead)[j]? =some bk:=e
    by_cases q:j=i
    · subst q
      rw [qlo hli] at e2;simp only [Option.some.injEq] at e2;subst e2;trivial
    · rw [qlg (fun z=>q z.symm)] at e2
      have:=h.blk j bk e2;cases bk with
      | dead=>trivial
      | arr ys k2=>exact b84 q this
      | box y k2=>exact b84 q this
theorem b3d {m:Nat} {s:St} (b i:Nat) (pre post xs:List V) (k:Kd) (hb:s.O[b]? =some (.box (.agg (pre++.ref i::post)) .mix)) (hO:s.O[i]? =some (.arr xs k)) (hk:k=.flat∨k=.deep∨k=.thin) (hne:b≠i) :
    b6j m s {s with O:=(s.O.set b (.box (.agg (pre++.sl xs::post)) .mix)).set i .dead}:=by
  intro cx a w μ ow hmu h;have hli:i < s.O.length:=(qlc.1 hO).1;have hlb:b < s.O.length:=(qlc.1 hb).1;have htc:b1y s (.ref i)=some (.sl xs,[i],false):=by
    simp only [b1y,St.row,hO,Option.bind_some,Blk.row];rcases hk with e | e | e<;>subst e<;>rfl
  refine ⟨μ,b80 ow i,h.dfr,h.sz,fun t2=> ?_,fun j bk e=> ?_,fun j hj=>h.dom j (by rwa [qlp,qlp] at hj),fun y hy=>h.owl y (b66 hy),fun y hy=>h.own y (b66 hy),h.frm,h.mu⟩
  · obtain ⟨bl,r1,r2⟩:=h.env t2
    exact ⟨bl,r1,fun y hy=>b7v i (r2 y hy)⟩
  · by_cases q:j=i
    · subst q
      rw [qlo (by rw [qlp];exact hli)] at e;simp only [Option.some.injEq] at e;subst e;trivial
    · rw [qlg (fun z=>q z.symm)] at e
      by_cases qb:j=b
      · subst qb
        rw [qlo hlb] at e;simp only [Option.some.injEq] at e;subst e;obtain ⟨l,q1,q2,q3⟩:=h.blk j _ hb;rcases q3 with ⟨_,q3⟩ | ⟨q3,q4,bl,⟨c1,c2,c3,c,tc,vs,c4,c5,c6,c7,c8⟩,q6,_⟩
        · cases q3
        have c6':RepL w μ (pre++V.ref i::post) vs bl:=by simpa [V.cells,Kd.mu] using c6
        obtain ⟨x1,x23,b1,b23,ev1,eb1,r1,r23⟩:=RepL.split pre (.ref i::post) c6';cases r23 with
        | cons _ x bx _ x3 b3 hx r3=>
          have hbx:bx=[]:=by cases hx;rfl
          subst hbx;obtain ⟨bl',t1,_,_,t4,_⟩:=b7d h.sup hx (by simp) htc;obtain ⟨_,own⟩:=t4 rfl;have hv:∀y∈bl,VOK cx ow s.vw y:=q6;refine ⟨l,q1,q2,.inr ⟨q3,(b9x q4 q).trans q4,b1++(bl'++b3),⟨c1,c2,?_,c,tc,vs,c4,c5,?_,c7,c8⟩,?_,fun _=>by simp⟩⟩
          · intro y hy
            rw [qlk] at hy;subst hy;rw [←c3 _ (qlk.2 rfl)];simp [V.cells]
          · have:RepL w μ (pre++V.sl xs::post) vs (b1++(bl'++b3)):=by
              rw [ev1];exact r1.append (RepL.cons _ _ _ _ _ _ (t1.keep (MLe.zero μ) fun _ _=>rfl) r3)
            simpa [V.cells,Kd.mu] using this
          · show ∀y∈b1++(bl'++b3),VOK cx (b80 ow i) s.vw y
            intro y hy;rcases qlj.1 hy with hy | hy
            · exact b7v i (hv y (by rw [eb1];simp [hy]))
            · rcases qlj.1 hy with hy | hy
              · obtain ⟨j2,hj,r,e⟩:=own y hy
                rw [qlk] at hj;subst hj;exact ⟨.inl (c06 e),.inr (h.own y (by rw [e];simp))⟩
              · exact b7v i (hv y (by rw [eb1];simp [hy]))
      · rw [qlg (fun z=>qb z.symm)] at e
        have:=h.blk j bk e;cases bk with
        | dead=>trivial
        | arr ys k2=>exact b84 q this
        | box y k2=>exact b84 q this
theorem d8b (code:List Int) (a s:Int) (l:List ByteArray) (hl:0 < l.length∧l.length≤1048576) (hcode:∀x∈code,0≤x∧x≤255) (hcl:code.length≤9223372036854775807) (ha:0≤a∧a < 18000000000):b74 Tryz.prog 91 [.ptr 0 0 0,.ref 1] [cQ code a s,.arr (l.map V.str) .flat] (fun r O'=>∃(v:ByteArray) (a' s':Int),(v∈l)∧(a≤a'∧a'≤a+2)∧r=.str v∧O'=[cQ code a' s',.arr (l.map V.str) .flat]):=by
 refine zcx [.tmp 4] [(34,[0])] Tryz.func91 Tryz.ntmps91 ⟨?_⟩;intro Q0 n0 r0;have T:=tq8 Ty.t3 Ty.t5 Ty.t9 Ty.t22 Ty.t32 Ty.t68 Ty.t69 Ty.t71;have F:=Fc.mk True.intro;refine yR [0,1] ⟨?_⟩;refine b1l [4] ?_;intro K2 k2;refine zq5 ⟨?_⟩;refine f6v ⟨?_⟩;refine zxl (b2d code a s ((l.length:Int)) hcode hcl (by omega)) ⟨?_⟩;rintro _ _ ⟨v9,a9,s9,h9,k9,rfl,rfl⟩;obtain ⟨x,hx⟩:∃x,l[v9.toNat]? =some x:=⟨l[v9.toNat]'(by omega),qla (by omega)⟩;refine zEl ⟨?_⟩;have F:=Fc.mk (gdm hx);refine f7z ⟨?_⟩;refine b2l ⟨?_⟩;refine k2 _ ?_;refine zq2 ⟨?_⟩;refine b1a ?_;exact ⟨_,_,_,qlb hx,by omega,rfl,rfl⟩
theorem f7c (c1 c2:List Int) (h1:c1.length≤9223372036854775807) (h2:c2.length≤9223372036854775807):Con Tryz.prog 4 [.sl (c1.map (V.int .u8)),.sl (c2.map (V.int .u8))] [] (.bool (decide ((c1.length:Int) > 1048576) || decide ((c2.length:Int) > 1048576 - c1.length))) []:=by
 refine zcn [.tmp 4] [] Tryz.func4 Tryz.ntmps4 ⟨?_⟩;intro Q0 n0 r0;have T:=tq3 Ty.t3 Ty.t5 Ty.t22;have F:=Fc.mk True.intro;refine yR [0,1] ⟨?_⟩;refine yR [4] ⟨?_⟩;refine zr ⟨?_⟩;exact b0g rfl (by first | rfl | simp) (.inl rfl)
theorem c1e (l:List (Int)) (hl:l.length≤1048576):Con Tryz.prog 9 [.sl (l.map (V.int .i64)),.sl (l.map (V.int .i64))] [] (.bool true) []:=by
 refine zcn [.tmp 4] [] Tryz.func9 Tryz.ntmps9 ⟨?_⟩;intro Q0 n0 r0;have T:=tq2 Ty.t3 Ty.t35;have F:=Fc.mk True.intro;refine yR [0,1] ⟨?_⟩;refine b0e ?_;intros;refine yR [0,1,10] ⟨?_⟩;refine b18 _ rfl ?_ ?_
 ·intro hc0;exfalso;simp at hc0
 ·intro hc0;try simp only [zC,reduceCtorEq] at hc0
  refine zn [0,1] ⟨?_⟩;refine b0e ?_;intros;refine yR [0,1,12,13] ⟨?_⟩;refine b0i ?_;intros;refine b08 (fun i=>⟨[(0,.sl (l.map (V.int .i64))),(1,.sl (l.map (V.int .i64))),(12,.int .i64 l.length),(13,.int .i64 (Nat.cast i))],[],false,26,0⟩) (fun i=>i≤l.length) (fun i=>l.length - i) 0 ?_ ?_ ?_
  ·refine b2a [0,1,12,13] ?_;simp only [b02,b0n,b0l,b0j,b0u,Nat.reduceEqDiff,reduceIte];rfl
  ·exact qle _
  ·rintro i hok8 Q8 n8 e8 r8;have hi1:i≤l.length:=hok8;refine yR [0,1,12,13,14] ⟨?_⟩;refine b0e ?_;intros;refine b0a _ rfl ?_ ?_
   ·intro hc1;have hlt:i < l.length:=by omega
    obtain ⟨x,hx⟩:∃x,l[i]? =some x:=⟨l[i],qla hlt⟩;refine zn [0,1,12,13] ⟨?_⟩;refine b0e ?_;intros;refine b0i ?_;intros;have F:=Fc.mk (gdm hx);refine yR [0,1,5,12,13] ⟨?_⟩;refine b0e ?_;intro Q15 n15 e15 r15;refine b1f (by kernel_rfl) ?_;intro K16 q16 k16;show b1r _ _ _ _ 9 (Array.replicate 9 false) _;refine b0t q16 true 0 16 ?_;refine b0t q16 true 1 17 ?_;refine b1z q16 true 2 18 ?_;refine b1d q16 true 3 19 ?_;refine b0t q16 true 4 20 ?_;refine b0t q16 true 5 21 ?_;refine b1z q16 true 6 22 ?_;refine b1d q16 true 7 23 ?_;refine b19 q16 true 8 24 ?_;refine b0b (by kernel_rfl) ?_;refine k16 _ ?_;refine n15 _ _ (b0f [0,1,12,13,24] _) ?_;refine zk ⟨?_⟩;refine b18 _ rfl ?_ ?_
    ·intro hc2;exfalso;simp at hc2
    ·intro hc2;try simp only [zC,reduceCtorEq] at hc2
     refine zn [0,1,12,13] ⟨?_⟩;refine yV ⟨?_⟩;refine n8 _ (i+1) ?_ ?_ ?_
     ·refine b0d [0,1,12,13] [] ⟨?_⟩;rfl
     ·exact hlt
     ·show _ < _;omega
   ·intro hc1;refine zn [] ⟨?_⟩;refine yR [4] ⟨?_⟩;refine zr ⟨?_⟩;exact b0g rfl rfl (.inl rfl)
end Go.Proofs.YtmbbjhopngejaaaGreatDoor
