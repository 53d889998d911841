/- What functions compute. No condition. -/
import Derived.Test.YtmbbjhopngejaaaGreatX11
set_option linter.all false
open Array renaming replicate → Za
open Go.Vm.V renaming int → Zb, str → Zd
open List renaming map_nil → Zc
namespace Go.Proofs.YtmbbjhopngejaaaGreat
open Go Go.Vm Tryz
set_option maxHeartbeats 8000000
theorem f8r (a:Int):0≤IntKind.i64.wrap (IntKind.u64.wrap ((BitVec.ofInt IntKind.u64.bits a &&& BitVec.ofInt IntKind.u64.bits 255).toNat:Int))∧IntKind.i64.wrap (IntKind.u64.wrap ((BitVec.ofInt IntKind.u64.bits a &&& BitVec.ofInt IntKind.u64.bits 255).toNat:Int))≤255:=by
  have h:(BitVec.ofInt IntKind.u64.bits a &&& BitVec.ofInt IntKind.u64.bits 255).toNat≤255:=by
    rw [BitVec.toNat_and];exact ql7 Nat.and_le_right (by decide)
  generalize (BitVec.ofInt IntKind.u64.bits a &&& BitVec.ofInt IntKind.u64.bits 255).toNat=n at h;have e:IntKind.u64.wrap (n:Int)=n:=by
    simp only [IntKind.wrap,IntKind.bits,IntKind.signed];simp;omega
  rw [e,c3k (by omega) (by omega)];omega
theorem f3o {x m:Int} (hx:0≤x) (hm:1 < m):0≤x.tmod m∧x.tmod m < m:=⟨Int.tmod_nonneg m hx,Int.tmod_lt_of_pos x (by omega)⟩
theorem d8x (code:List Int) (a s:Int) (hcode:∀x∈code,0≤x∧x≤255) (hcl:code.length≤9223372036854775807) (ha:0≤a∧a < 20000000000):b76 prog 121 [.ptr 0 0 0] [cQ code a s] (fun r O'=>∃(v:Int) (a' s':Int),(0≤v∧v≤255)∧(a≤a'∧a'≤a+1)∧r=.int .i64 v∧O'=[cQ code a' s']):=by
 apply zcx [.tmp 2] [] func121 ntmps121;intro _ _ _;have T:=tq6 Y3 Y5 Y22 Y61 Y63 f8y;have F:=Fc.mk True.intro;apply yR [0];apply yR [0,3];apply b0e;intro _ n3 _ _;apply b0e;intro _ n4 _ _;apply b1b (by kernel_rfl);intro _ q5 k5;show b13 _ _ _ _ 10 (Za 10 false) _;refine zdU q5 true 0 4 ?_;refine zdU q5 true 1 5 ?_;refine zdU q5 true 2 6 ?_;refine b08 q5 true 3 7 ?_;refine zdU q5 true 4 8 ?_;refine zdU q5 true 5 9 ?_;refine zdU q5 true 6 10 ?_;refine b08 q5 true 7 11 ?_;refine d6y q5 true 8 12 ?_;refine b2b q5 true 9 13 ?_;apply b0b (by kernel_rfl);apply k5 _;apply n4 _ _ (b0a [0,3,13] _);apply (zk);apply b0c _ rfl
 ·intro hc0;have hlt:a.toNat < code.length:=by omega
  obtain ⟨x,hx⟩:∃x,code[a.toNat]? =some x:=⟨code[a.toNat],qla hlt⟩;have hxb:=hcode x (qlb hx);have hxw:IntKind.i64.wrap x=x:=c3k (by omega) (by omega);apply b1b (by kernel_rfl);intro _ q7 k7;show b13 _ _ _ _ 12 (Za 12 false) _;have F:=fq2 (gdm hx) hxw;refine zdU q7 true 0 14 ?_;refine zdU q7 true 1 15 ?_;refine zdU q7 true 2 16 ?_;refine b08 q7 true 3 17 ?_;refine zdU q7 true 4 18 ?_;refine zdU q7 true 5 19 ?_;refine zdU q7 true 6 20 ?_;refine b08 q7 true 7 21 ?_;refine b0z q7 true 8 22 ?_;refine b08 q7 true 9 23 ?_;refine f4g q7 true 10 24 ?_;apply b0q 11;apply b0b (by kernel_rfl);apply k7 _;apply n3 _ _ (b0a [0,3] _);apply (zk);apply yR [0,3];apply yR [0,3];apply b0e;intros;apply b0e;intro _ n11 _ _;apply b1b (by kernel_rfl);intro _ q12 k12;show b13 _ _ _ _ 10 (Za 10 false) _;refine zdU q12 true 0 44 ?_;refine zdU q12 true 1 45 ?_;refine zdU q12 true 2 46 ?_;refine b08 q12 true 3 47 ?_;refine zdU q12 true 4 48 ?_;refine zdU q12 true 5 49 ?_;refine zdU q12 true 6 50 ?_;refine b08 q12 true 7 51 ?_;refine d6y q12 true 8 52 ?_;refine b2b q12 true 9 53 ?_;apply b0b (by kernel_rfl);apply k12 _;apply n11 _ _ (b0a [0,3,53] _);apply (zk);apply b0c _ rfl
  ·intro hc1;apply yR [2];apply (zr);refine b1g ?_;exact ⟨_,_,_,by omega,by omega,rfl,rfl⟩
  ·intro hc1;apply zn [0];apply yR [2];apply (zr);refine b1g ?_;exact ⟨_,_,_,f8r _,by omega,rfl,rfl⟩
 ·intro hc0;apply zn [0,3];apply yR [0,3];apply yR [0,3];apply b0e;intros;apply b0e;intro _ n19 _ _;apply b1b (by kernel_rfl);intro _ q20 k20;show b13 _ _ _ _ 10 (Za 10 false) _;refine zdU q20 true 0 44 ?_;refine zdU q20 true 1 45 ?_;refine zdU q20 true 2 46 ?_;refine b08 q20 true 3 47 ?_;refine zdU q20 true 4 48 ?_;refine zdU q20 true 5 49 ?_;refine zdU q20 true 6 50 ?_;refine b08 q20 true 7 51 ?_;refine d6y q20 true 8 52 ?_;refine b2b q20 true 9 53 ?_;apply b0b (by kernel_rfl);apply k20 _;apply n19 _ _ (b0a [0,3,53] _);apply (zk);apply b0c _ rfl
  ·intro hc2;apply yR [2];apply (zr);refine b1g ?_;exact ⟨_,_,_,by omega,by omega,rfl,rfl⟩
  ·intro hc2;apply zn [0];apply yR [2];apply (zr);refine b1g ?_;exact ⟨_,_,_,f8r _,by omega,rfl,rfl⟩
section
variable (code:List Int) (a s:Int) (m:Int) (hcode:∀x∈code,0≤x∧x≤255) (hcl:code.length≤9223372036854775807)
include code a s m hcode hcl
theorem b1t (ha:0≤a∧a < 19000000000):b76 prog 70 [.ptr 0 0 0,.int .i64 m] [cQ code a s] (fun r O'=>∃(v:Int) (a' s':Int),(0≤v∧(v < m∨(m≤1∧v=0)))∧(a≤a'∧a'≤a+2)∧r=.int .i64 v∧O'=[cQ code a' s']):=by
 apply zcx [.tmp 4] [(121,[0])] func70 ntmps70;intro _ _ _;have T:=tq6 Y3 Y5 Y22 Y60 Y61 Y63;have F:=Fc.mk True.intro;apply yR [0,1];apply b0e;intros;apply yR [0,1,7];apply b0c _ rfl
 ·intro hc0;apply yR [4];apply (zr);refine b1g ?_;exact ⟨0,_,_,by omega,by omega,rfl,rfl⟩
 ·intro hc0;apply zn [0,1];apply b1l [0,1,5];intro _ k6;apply (zU);apply zxl (d8x code a s hcode hcl (by omega));rintro _ _ ⟨v9,a9,s9,h9,k9,rfl,rfl⟩;apply (g0g);apply k6 _;apply (zk);apply b0e;intro _ n7 _ _;apply yR [0,1,5,11];apply b0c _ rfl
  ·intro hc1;apply b2u;intro _ k10;apply (zU);apply (b46);apply (zU);apply zxl (d8x code a9 s9 hcode hcl (by omega));rintro _ _ ⟨v15,a15,s15,h15,k15,rfl,rfl⟩;apply (zEl);apply (b46);apply (b2h);apply k10 _;apply n7 _ _ (b0a [1,5] _);apply (zk);apply yR [4];apply (zr);have hm1:1 < m:=by omega
   have ht:=f3o (x:=v9 * 256+v15) (m:=m) (by omega) hm1;refine b1g ?_;exact ⟨_,_,_,by omega,by omega,rfl,rfl⟩
  ·intro hc1;apply zn [1,5];apply yR [4];apply (zr);have hm1:1 < m:=by omega
   have ht:=f3o (x:=v9) (m:=m) (by omega) hm1;refine b1g ?_;exact ⟨_,_,_,by omega,by omega,rfl,rfl⟩
theorem b7p (ha:0≤a∧a < 18000000000):b76 prog 73 [.ptr 0 0 0,.int .i64 m] [cQ code a s] (fun r O'=>∃(v:Bool) (a' s':Int),(True)∧(a≤a'∧a'≤a+2)∧r=.bool v∧O'=[cQ code a' s']):=by
 apply zcx [.tmp 4] [(70,[0])] func73 ntmps73;intro _ _ _;have T:=tq6 Y3 Y5 Y22 Y60 Y61 Y63;have F:=Fc.mk True.intro;apply yR [0,1];apply b1l [4];intro _ k2;apply (zq2);apply zxl (b1t code a s (m) hcode hcl (by omega));rintro _ _ ⟨v7,a7,s7,h7,k7,rfl,rfl⟩;apply (zEl);apply (d8q);apply (b2h);apply k2 _;apply (zq1);refine b1g ?_;exact ⟨_,_,_,trivial,by omega,rfl,rfl⟩
end
theorem b16 (code:List Int) (a s:Int) (l:List Int) (hl:0 < l.length∧l.length≤1048576) (hcode:∀x∈code,0≤x∧x≤255) (hcl:code.length≤9223372036854775807) (ha:0≤a∧a < 18000000000):b76 prog 75 [.ptr 0 0 0,.ref 1] [cQ code a s,.arr (l.map (Zb .i64)) .flat] (fun r O'=>∃(v:Int) (a' s':Int),(v∈l)∧(a≤a'∧a'≤a+2)∧r=.int .i64 v∧O'=[cQ code a' s',.arr (l.map (Zb .i64)) .flat]):=by
 apply zcx [.tmp 4] [(70,[0])] func75 ntmps75;intro _ _ _;have T:=tq7 Y3 Y5 Y22 Y41 Y60 Y61 Y63;have F:=Fc.mk True.intro;apply yR [0,1];apply b1l [4];intro _ k2;apply (zq8);apply (g4m);apply zxl (b1t code a s ((l.length:Int)) hcode hcl (by omega));rintro _ _ ⟨v9,a9,s9,h9,k9,rfl,rfl⟩;obtain ⟨x,hx⟩:∃x,l[v9.toNat]? =some x:=⟨l[v9.toNat]'(by omega),qla (by omega)⟩;apply (zEl);have F:=Fc.mk (gdm hx);apply (f9c);apply (b2h);apply k2 _;apply (zq1);refine b1g ?_;exact ⟨_,_,_,qlb hx,by omega,rfl,rfl⟩
theorem f8p {c:List Int} (h:∀a∈c,(Lit.int .u8 a).wf=true):∀x∈c,0≤x∧x≤255:=by
  intro x hx;have:=h x hx;simp [Lit.wf,IntKind.min,IntKind.max,IntKind.signed,IntKind.bits] at this;omega
def b8z (ow:Ow) (id:Nat):Ow:=fun b=>match ow b with
  | some (r,j)=>if j=id then none else some (r,j)
  | none=>none
theorem b7e {ow:Ow} {id b:Nat} (h:b8z ow id b≠none):ow b≠none:=fun e=>h (by simp [b8z,e])
theorem c0m {ow:Ow} {id b j:Nat} {r:Bool} (h:ow b=some (r,j)) (hj:j≠id):b8z ow id b=ow b:=by simp [b8z,h,hj]
theorem c13 {ow:Ow} {id b:Nat} {r:Bool} (h:ow b=some (r,id)):b8z ow id b=none:=by simp [b8z,h]
theorem b7t {cx:Cx} {ow:Ow} {vw:Bool} {b:Nat} (id:Nat) (h:VOK cx ow vw b):VOK cx (b8z ow id) vw b:=by
  refine ⟨?_,h.2⟩;rcases h.1 with e | ⟨v,j,e⟩
  · exact .inl (by simp [b8z,e])
  · by_cases q:j=id
    · exact .inl (by subst q;exact c13 e)
    · exact .inr ⟨v,j,by rw [c0m e q];exact e⟩
theorem b80 {cx:Cx} {w:World} {μ:Nat→Option Vm.Loc} {ow:Ow} {vw:Bool} {id j:Nat} {xs:List V} {k:Kd} (hj:j≠id) (h:b5g cx w μ ow vw j xs k):b5g cx w μ (b8z ow id) vw j xs k:=by
  obtain ⟨l,h1,h2,h3⟩:=h;refine ⟨l,h1,h2,h3.imp (fun z=>z) fun ⟨a1,a2,bl,a3,a4,a5⟩=>⟨a1,(c0m a2 hj).trans a2,bl,a3,?_,a5⟩⟩;cases k with
  | flat=>exact a4
  | thin=>exact a4
  | deep | part=>exact ⟨a4.1,fun b hb=>(c0m (a4.2 b hb) hj).trans (a4.2 b hb)⟩
  | shal=>exact fun b hb=>b7t id (a4 b hb)
  | mix=>exact fun b hb=>b7t id (a4 b hb)
theorem c8r {m:Nat} {s:St} (t i:Nat) (xs:List V) (k:Kd) (ht:s.get t=.ref i) (hO:s.O[i]? =some (.arr xs k)) (hk:k=.flat∨k=.deep∨k=.thin):b44 m s {s with env:=(t,.sl xs)::s.env,O:=s.O.set i .dead}:=by
  intro cx a w μ ow hmu h;have hli:i < s.O.length:=(qlc.1 hO).1;have htc:b1v s (.ref i)=some (.sl xs,[i],false):=by
    simp only [b1v,St.row,hO,Option.bind_some,Blk.row];rcases hk with e | e | e<;>subst e<;>rfl
  refine ⟨μ,b8z ow i,h.dfr,h.sz,fun t2=> ?_,fun j bk e=> ?_,fun j hj=>h.dom j (by rwa [qlr] at hj),fun b hb=>h.owl b (b7e hb),fun b hb=>h.own b (b7e hb),h.frm,h.mu⟩
  · obtain ⟨bl,r1,r2⟩:=h.env t2
    show ∃bl,Rep w μ (Vm.look t2 ((t,V.sl xs)::s.env)) _ bl∧_;rw [b0f]
    by_cases q:t2=t
    · subst q
      rw [if_pos rfl];rw [ht] at r1;obtain ⟨bl',t1,_,_,t4,_⟩:=b5e h.sup r1 r2 htc;obtain ⟨_,own⟩:=t4 rfl;refine ⟨bl',t1.keep (MLe.zero μ) fun _ _=>rfl,fun b hb=> ?_⟩;obtain ⟨j,hj,r,e⟩:=own b hb;rw [qlm] at hj;subst hj;exact ⟨.inl (c13 e),.inr (h.own b (by rw [e];simp))⟩
    · rw [if_neg q]
      exact ⟨bl,r1,fun b hb=>b7t i (r2 b hb)⟩
  · have e2:(s.O.set i .dead)[j]? =some bk:=e
    by_cases q:j=i
    · subst q
      rw [qlf hli] at e2;simp only [Option.some.injEq] at e2;subst e2;trivial
    · rw [qld (fun z=>q z.symm)] at e2
      have:=h.blk j bk e2;cases bk with
      | dead=>trivial
      | arr ys k2=>exact b80 q this
      | box y k2=>exact b80 q this
theorem b3h {m:Nat} {s:St} (b i:Nat) (pre post xs:List V) (k:Kd) (hb:s.O[b]? =some (.box (.agg (pre++.ref i::post)) .mix)) (hO:s.O[i]? =some (.arr xs k)) (hk:k=.flat∨k=.deep∨k=.thin) (hne:b≠i) :
    b44 m s {s with O:=(s.O.set b (.box (.agg (pre++.sl xs::post)) .mix)).set i .dead}:=by
  intro cx a w μ ow hmu h;have hli:i < s.O.length:=(qlc.1 hO).1;have hlb:b < s.O.length:=(qlc.1 hb).1;have htc:b1v s (.ref i)=some (.sl xs,[i],false):=by
    simp only [b1v,St.row,hO,Option.bind_some,Blk.row];rcases hk with e | e | e<;>subst e<;>rfl
  refine ⟨μ,b8z ow i,h.dfr,h.sz,fun t2=> ?_,fun j bk e=> ?_,fun j hj=>h.dom j (by rwa [qlr,qlr] at hj),fun y hy=>h.owl y (b7e hy),fun y hy=>h.own y (b7e hy),h.frm,h.mu⟩
  · obtain ⟨bl,r1,r2⟩:=h.env t2
    exact ⟨bl,r1,fun y hy=>b7t i (r2 y hy)⟩
  · by_cases q:j=i
    · subst q
      rw [qlf (by rw [qlr];exact hli)] at e;simp only [Option.some.injEq] at e;subst e;trivial
    · rw [qld (fun z=>q z.symm)] at e
      by_cases qb:j=b
      · subst qb
        rw [qlf hlb] at e;simp only [Option.some.injEq] at e;subst e;obtain ⟨l,q1,q2,q3⟩:=h.blk j _ hb;rcases q3 with ⟨_,q3⟩ | ⟨q3,q4,bl,⟨c1,c2,c3,c,tc,vs,c4,c5,c6,c7,c8⟩,q6,_⟩
        · cases q3
        have c6':RepL w μ (pre++V.ref i::post) vs bl:=by simpa [V.cells,Kd.mu] using c6
        obtain ⟨x1,x23,b1,b23,ev1,eb1,r1,r23⟩:=RepL.split pre (.ref i::post) c6';cases r23 with
        | cons _ x bx _ x3 b3 hx r3=>
          have hbx:bx=[]:=by cases hx;rfl
          subst hbx;obtain ⟨bl',t1,_,_,t4,_⟩:=b5e h.sup hx (by simp) htc;obtain ⟨_,own⟩:=t4 rfl;have hv:∀y∈bl,VOK cx ow s.vw y:=q6;refine ⟨l,q1,q2,.inr ⟨q3,(c0m q4 q).trans q4,b1++(bl'++b3),⟨c1,c2,?_,c,tc,vs,c4,c5,?_,c7,c8⟩,?_,fun _=>by simp⟩⟩
          · intro y hy
            rw [qlm] at hy;subst hy;rw [←c3 _ (qlm.2 rfl)];simp [V.cells]
          · have:RepL w μ (pre++V.sl xs::post) vs (b1++(bl'++b3)):=by
              rw [ev1];exact r1.append (RepL.cons _ _ _ _ _ _ (t1.keep (MLe.zero μ) fun _ _=>rfl) r3)
            simpa [V.cells,Kd.mu] using this
          · show ∀y∈b1++(bl'++b3),VOK cx (b8z ow i) s.vw y
            intro y hy;rcases qll.1 hy with hy | hy
            · exact b7t i (hv y (by rw [eb1];simp [hy]))
            · rcases qll.1 hy with hy | hy
              · obtain ⟨j2,hj,r,e⟩:=own y hy
                rw [qlm] at hj;subst hj;exact ⟨.inl (c13 e),.inr (h.own y (by rw [e];simp))⟩
              · exact b7t i (hv y (by rw [eb1];simp [hy]))
      · rw [qld (fun z=>qb z.symm)] at e
        have:=h.blk j bk e;cases bk with
        | dead=>trivial
        | arr ys k2=>exact b80 q this
        | box y k2=>exact b80 q this
theorem f4k (code:List Int) (a s:Int) (l:List ByteArray) (hl:0 < l.length∧l.length≤1048576) (hcode:∀x∈code,0≤x∧x≤255) (hcl:code.length≤9223372036854775807) (ha:0≤a∧a < 18000000000):b76 prog 127 [.ptr 0 0 0,.ref 1] [cQ code a s,.arr (l.map Zd) .flat] (fun r O'=>∃(v:ByteArray) (a' s':Int),(v∈l)∧(a≤a'∧a'≤a+2)∧r=.str v∧O'=[cQ code a' s',.arr (l.map Zd) .flat]):=by
 apply zcx [.tmp 4] [(70,[0])] func127 ntmps127;intro _ _ _;have T:=tq8 Y3 Y5 Y9 Y22 Y48 Y60 Y61 Y63;have F:=Fc.mk True.intro;apply yR [0,1];apply b1l [4];intro _ k2;apply (zq8);apply (g4m);apply zxl (b1t code a s ((l.length:Int)) hcode hcl (by omega));rintro _ _ ⟨v9,a9,s9,h9,k9,rfl,rfl⟩;obtain ⟨x,hx⟩:∃x,l[v9.toNat]? =some x:=⟨l[v9.toNat]'(by omega),qla (by omega)⟩;apply (zEl);have F:=Fc.mk (gdm hx);apply (f9c);apply (b2h);apply k2 _;apply (zq1);refine b1g ?_;exact ⟨_,_,_,qlb hx,by omega,rfl,rfl⟩
theorem f9q (c1 c2:List Int) (h1:c1.length≤9223372036854775807) (h2:c2.length≤9223372036854775807):Con prog 4 [.sl (c1.map (Zb .u8)),.sl (c2.map (Zb .u8))] [] (.bool (decide ((c1.length:Int) > 1048576) || decide ((c2.length:Int) > 1048576 - c1.length))) []:=by
 apply zcn [.tmp 4] [] func4 ntmps4;intro _ _ _;have T:=tq3 Y3 Y5 Y22;have F:=Fc.mk True.intro;apply yR [0,1];apply yR [4];apply (zr);exact b0h rfl (by first | rfl | simp) (.inl rfl)
theorem b7n (l:List (Int)) (hl:l.length≤1048576):Con prog 15 [.sl (l.map (Zb .i64)),.sl (l.map (Zb .i64))] [] (.bool true) []:=by
 apply zcn [.tmp 4] [] func15 ntmps15;intro _ _ _;have T:=tq2 Y3 Y41;have F:=Fc.mk True.intro;apply yR [0,1];apply b0e;intros;apply yR [0,1,10];apply b2a _ rfl
 ·intro hc0;exfalso;simp at hc0
 ·intro hc0;try simp only [zC,reduceCtorEq] at hc0
  apply zn [0,1];apply b0e;intros;apply yR [0,1,12,13];apply b0g;intros;apply b05 (fun i=>⟨[(0,.sl (l.map (Zb .i64))),(1,.sl (l.map (Zb .i64))),(12,.int .i64 l.length),(13,.int .i64 (Nat.cast i))],[],false,26,0⟩) (fun i=>i≤l.length) (fun i=>l.length - i) 0
  ·refine b18 [0,1,12,13] ?_;simp only [b0r,b0k,b0i,b0f,b0n,Nat.reduceEqDiff,reduceIte];rfl
  ·exact qle _
  ·rintro i hok8 Q8 n8 e8 r8;have hi1:i≤l.length:=hok8;apply yR [0,1,12,13,14];apply b0e;intros;apply b0c _ rfl
   ·intro hc1;have hlt:i < l.length:=by omega
    obtain ⟨x,hx⟩:∃x,l[i]? =some x:=⟨l[i],qla hlt⟩;apply zn [0,1,12,13];apply b0e;intros;apply b0g;intros;have F:=Fc.mk (gdm hx);apply yR [0,1,5,12,13];apply b0e;intro _ n15 _ _;apply b1b (by kernel_rfl);intro _ q16 k16;show b13 _ _ _ _ 9 (Za 9 false) _;refine zdU q16 true 0 16 ?_;refine zdU q16 true 1 17 ?_;refine b0z q16 true 2 18 ?_;refine b08 q16 true 3 19 ?_;refine zdU q16 true 4 20 ?_;refine zdU q16 true 5 21 ?_;refine b0z q16 true 6 22 ?_;refine b08 q16 true 7 23 ?_;refine b2b q16 true 8 24 ?_;apply b0b (by kernel_rfl);apply k16 _;apply n15 _ _ (b0a [0,1,12,13,24] _);apply (zk);apply b2a _ rfl
    ·intro hc2;exfalso;simp at hc2
    ·intro hc2;try simp only [zC,reduceCtorEq] at hc2
     apply zn [0,1,12,13];apply (yV);apply n8 _ (i+1)
     ·apply b0d [0,1,12,13] [];rfl
     ·exact hlt
     ·show _ < _;omega
   ·intro hc1;apply zn [];apply yR [4];apply (zr);exact b0h rfl rfl (.inl rfl)
def d4i (s:Int):List Int:=if s=0 then [1,5] else if s=1 then [2,0] else if s=2 then [3,4] else if s=3 then [4] else if s=4 then [0,1,5] else [0]
def c1a (s:Int):List Int:=if s=0 then [1,5] else if s=1 then [0,2] else if s=2 then [3,4] else if s=3 then [4] else if s=4 then [0,1,5] else [0]
theorem f6u (s:Int):(d4i s).length≤3∧(c1a s).length≤3:=by
  unfold d4i c1a;repeat' split
  all_goals simp
theorem f7x (s t:Int):t∈c1a s↔t∈d4i s:=by
  unfold d4i c1a;repeat' split
  all_goals simp [or_comm]
def d48 (fl:List TA) (s:ByteArray) (t:Int):Bool:=decide (0≤b4l fl s) && (decide (0≤t) && decide (t≤5)) && decide (t∈d4i (stA fl s))
def f9i (fl:List TA) (s:ByteArray) (t:Int):List TA:=match fl[(b4l fl s).toNat]? with
  | some a=>fl.set (b4l fl s).toNat (a.1,a.2.1,a.2.2.1,a.2.2.2.1,t)
  | none=>fl
theorem f3f {fl:List TA} {s:ByteArray} {t:Int} {k:Nat} {a:TA} (h1:b4l fl s=(k:Int)) (h2:fl[k]? =some a):f9i fl s t=fl.set k (a.1,a.2.1,a.2.2.1,a.2.2.2.1,t):=by
  rw [f9i,h1,qlh,h2]
theorem f3c (fl:List TA) (s:ByteArray) (t:Int):(b4l fl s=-1∧d48 fl s t=false)∨(∃(k:Nat) (a:TA),b4l fl s=(k:Int)∧fl[k]? =some a∧(decide (0≤t) && decide (t≤5))=false∧d48 fl s t=false)∨
    ∃(k:Nat) (a:TA),b4l fl s=(k:Int)∧fl[k]? =some a∧(decide (0≤t) && decide (t≤5))=true∧d48 fl s t=decide (t∈d4i a.2.2.2.2):=by
  rcases c4d fl s with h | ⟨k,a,h1,h2,_⟩
  · exact .inl ⟨h,by rw [d48,h];rfl⟩
  · right
    cases q:(decide (0≤t) && decide (t≤5)) with
    | false=>exact .inl ⟨k,a,h1,h2,rfl,by rw [d48,q];simp⟩
    | true=>exact .inr ⟨k,a,h1,h2,rfl,by rw [d48,q,c9h h1 h2,h1,decide_eq_true (show (0:Int)≤(k:Int) by omega)];rfl⟩
def d8g (fl:List TA) (s:ByteArray) (t:Int):Bool:=d48 fl s t && !decide (t=1)
def g5e (ins:List TI) (s:ByteArray) (t:Int):List TI:=if 0≤b6k ins s∧¬(1≤t∧t≤3) then (match ins[(b6k ins s).toNat]? with
  | some x=>ins.set (b6k ins s).toNat (x.1,x.2.1,x.2.2.1,x.2.2.2.filter fun y=> !decide (y=s))
  | none=>ins) else ins
theorem f5o {ins:List TI} {s:ByteArray} {t:Int} (h:¬(0≤b6k ins s∧¬(1≤t∧t≤3))):g5e ins s t=ins:=by rw [g5e,if_neg h]
theorem f4y {ins:List TI} {s:ByteArray} {t:Int} {k:Nat} {x:TI} (h:¬(1≤t∧t≤3)) (h1:b6k ins s=(k:Int)) (h2:ins[k]? =some x):g5e ins s t=ins.set k (x.1,x.2.1,x.2.2.1,x.2.2.2.filter fun y=> !decide (y=s)):=by
  rw [g5e,if_pos ⟨by omega,h⟩,h1,qlh,h2]
theorem d0k {s:St} {ls:List Nat} {id i off j:Nat} {cs cs':List V} (h:idx ls id=some j) (h2:b1u s ls cs=some cs'):b1u s ls (.ptr id i off::cs)=some (.ptr j i off::cs'):=by
  have e:b2y s ls (.ptr id i off)=some (.ptr j i off):=by cases i<;>simp [b2y,b1o,h]
  rw [b1u,e,h2]
theorem d9u (x:Int):Con prog 193 [.int .i64 x] [] (.ref 0) [.arr ((c1a x).map (Zb .i64)) .flat]:=by
 apply zcn [.tmp 2] [] func193 ntmps193;intro _ _ _;have T:=tq2 Y3 Y41;have F:=Fc.mk True.intro;apply yR [0];apply b0e;intros;apply yR [3];apply b0g;intros;apply yR [3,4];apply b0c _ rfl
 ·intro hc0;apply yR [2];apply (zr);rw [show c1a x=[1,5] from by simp [c1a,hc0]];exact c0u rfl (.inl rfl)
 ·intro hc0;apply yR [3,7];apply b0c _ rfl
  ·intro hc1;apply yR [2];apply (zr);rw [show c1a x=[0,2] from by simp [c1a,hc0,hc1]];exact c0u rfl (.inl rfl)
  ·intro hc1;apply yR [3,10];apply b0c _ rfl
   ·intro hc2;apply yR [2];apply (zr);rw [show c1a x=[3,4] from by simp [c1a,hc0,hc1,hc2]];exact c0u rfl (.inl rfl)
   ·intro hc2;apply yR [3,13];apply b0c _ rfl
    ·intro hc3;apply yR [2];apply (zr);rw [show c1a x=[4] from by simp [c1a,hc0,hc1,hc2,hc3]];exact c0u rfl (.inl rfl)
    ·intro hc3;apply yR [16];apply b0c _ rfl
     ·intro hc4;apply yR [2];apply (zr);rw [show c1a x=[0,1,5] from by simp [c1a,hc0,hc1,hc2,hc3,hc4]];exact c0u rfl (.inl rfl)
     ·intro hc4;apply zn [];apply yR [2];apply (zr);rw [show c1a x=[0] from by simp [c1a,hc0,hc1,hc2,hc3,hc4]];exact c0u rfl (.inl rfl)
theorem f5g (a b:Int):Con prog 182 [.int .i64 a,.int .i64 b] [] (.bool (decide (b∈d4i a))) []:=by
 apply zcn [.tmp 4] [] func182 ntmps182;intro _ _ _;have T:=tq3 Y3 Y4 Y41;have F:=Fc.mk True.intro;apply yR [0,1];apply g2c [4] (d9u a) (d54 (c1a a) b (by have:=f6u a;omega));apply (zr);exact b0h rfl (by rw [decide_eq_decide.2 (f7x a b)]) (.inl rfl)
set_option maxRecDepth 8000 in
theorem d0v (fl:List TA) (s:ByteArray) (t:Int) (hl:fl.length≤1048576) (hls:∀t∈fl,t.1.size≤9223372036854775807) (hF:b6e fl=true):Con prog 154 [sQ rQa fl,.str s,.int .i64 t] [] (.tup [.ref 0,.bool (d48 fl s t)]) [aQ rQa (b3r (d48 fl s t) (f9i fl s t))]:=by
 apply zcn [.tmp 6,.tmp 7] [] func154 ntmps154;intro _ _ _;have T:=tq5 Y3 Y4 Y9 Y28 Y98;have F:=Fc.mk True.intro;rcases f3c fl s t with ⟨ha1,hA⟩ | ⟨k,⟨a0,a1,a2,a3,a4⟩,ha1,ha2,hq,hA⟩ | ⟨k,⟨a0,a1,a2,a3,a4⟩,ha1,ha2,hq,hA⟩
 ·skip;have hnk:decide ((-1:Int) < 0)=true:=rfl;have F:=fq3 hF ha1 hnk;apply yR [0,1,2];apply yRc [0,2,8] (b6v fl s hl);apply b0e;intros;apply b1l [0,2,8,34];intro _ k4;apply (zU);apply zc (c0p fl hl hls);apply (zq2);apply (zgU);apply (b5q);apply (zq5);apply zgc (b8f t);apply (g0f);apply (c00);apply (g4i);apply (zgU);apply (zPs);apply (f1j);apply k4 _;apply (zk);apply b2a _ rfl
  ·intro hc0;try simp only [zC,reduceCtorEq] at hc0
   have hB:(d48 fl s t)=false:=by
    first
    |exact hA
    |(rw [hA];simpa using hc0)
   apply yR [6,7];apply (zr);simp only [aQ,fQ,hB,b3e,Zc];exact c0o rfl rfl rfl (.inl rfl)
  ·intro hc0;exfalso;simp at hc0
 ·skip;have hkl:k < fl.length:=(qlc.1 ha2).1;have hnk:decide ((k:Int) < (0:Int))=false:=decide_eq_false (by omega);have F:=fq4 hF ha1 hnk hq;apply yR [0,1,2];apply yRc [0,2,8] (b6v fl s hl);apply b0e;intros;apply b1l [0,2,8,34];intro _ k10;apply (zU);apply zc (c0p fl hl hls);apply (zq2);apply (zgU);apply (b5q);apply (zq5);apply zgc (b8f t);apply (g0f);apply (c00);apply (g4i);apply (zgU);apply (zPs);apply (f1j);apply k10 _;apply (zk);apply b2a _ rfl
  ·intro hc0;try simp only [zC,reduceCtorEq] at hc0
   have hB:(d48 fl s t)=false:=by
    first
    |exact hA
    |(rw [hA];simpa using hc0)
   apply yR [6,7];apply (zr);simp only [aQ,fQ,hB,b3e,Zc];exact c0o rfl rfl rfl (.inl rfl)
  ·intro hc0;exfalso;simp at hc0
 ·skip;have hkl:k < fl.length:=(qlc.1 ha2).1;have hnk:decide ((k:Int) < (0:Int))=false:=decide_eq_false (by omega);simp only [] at hA;have hcf:=f3f (t:=t) ha1 ha2;simp only [] at hcf;have hsm:(fl.map rQa).set k (V.agg [Zd a0,Zb .i64 a1,Zb .i64 a2,Zb .i64 a3,Zb .i64 t])=(fl.set k (a0,a1,a2,a3,t)).map rQa:=by have q:=qmx (f:=rQa) (l:=fl) (i:=k) (a:=(a0,a1,a2,a3,t));exact q.symm
  have F:=fq7 hF ha1 hnk hq @qlh (gdm ha2) hsm;apply yR [0,1,2];apply yRc [0,2,8] (b6v fl s hl);apply b0e;intros;apply b1l [0,2,8,34];intro _ k16;apply (zU);apply zc (c0p fl hl hls);apply (zq2);apply (zgU);apply (b5q);apply (zq5);apply zgc (b8f t);apply (g0f);apply (c00);apply (g4i);apply (zgU);apply ztc (f5g a4 t);apply (f1j);apply k16 _;apply (zk);apply b0c _ rfl
  ·intro hc0;have hB:(d48 fl s t)=false:=by
    first
    |exact hA
    |(rw [hA];simpa using hc0)
   apply yR [6,7];apply (zr);simp only [aQ,fQ,hB,b3e,Zc];exact c0o rfl rfl rfl (.inl rfl)
  ·intro hc0;have hB:(d48 fl s t)=true:=by
    rw [hA];simpa using hc0
   apply zn [0,2,8];apply yR [0,2,8,9];apply yR [0,8,9];apply yRc [6,7] (c6e fl k a0 a1 a2 a3 t hl hkl);apply (zr);simp only [hB,b14,hcf];exact c0o rfl rfl rfl (.inl rfl)
theorem f4z {n:Int} {ss:List TS} {fl:List TA} {ins:List TI} {ws:List TW} (h:b3g n ss fl ins ws=true):b6e fl=true:=by
  simp only [b3g,d3r,dsB,Bool.and_eq_true] at h;exact h.1.1.1.1.1.1.2
theorem f2o {l:List ByteArray} {s:ByteArray} {j:Nat} {y:ByteArray} (h:l[j]? =some y):(l.take (j+1)).filter (fun z=> !decide (z=s))=if y=s then (l.take j).filter (fun z=> !decide (z=s)) else (l.take j).filter (fun z=> !decide (z=s))++[y]:=by
  rw [qlx,h,Option.toList_some,List.filter_append]
  by_cases q:y=s<;>simp [q]
set_option maxRecDepth 8000 in
theorem d9s (l:List TI) (k:Nat) (s:ByteArray) (x0:Int) (x1:Int) (x2:Bool) (x3:List ByteArray) (hl:l.length≤1048576) (hli:∀x∈l,x.2.2.2.length≤1048576) (hk:l[k]? =some (x0,x1,x2,x3)):Con prog 155 [sQ rQb l,.int .i64 (Nat.cast k),.str s] [] (.ref 0) [.arr ((l.set k (x0,x1,x2,(x3.filter fun y=> !decide (y=s)))).map rQb) .deep]:=by
 have hkl:=(qlc.1 hk).1;have hnl:=hli _ (qlb hk);simp only [] at hnl;have hfin:(l.map rQb).set k (V.agg [Zb .i64 x0,Zb .i64 x1,V.bool x2,V.sl ((x3.filter fun y=> !decide (y=s)).map Zd)])=(l.set k (x0,x1,x2,(x3.filter fun y=> !decide (y=s)))).map rQb:=by have q:=qmx (f:=rQb) (l:=l) (i:=k) (a:=(x0,x1,x2,(x3.filter fun y=> !decide (y=s))));exact q.symm
 apply zcn [.tmp 6] [] func155 ntmps155;intro _ _ _;have T:=tq6 Y3 Y4 Y9 Y29 Y48 Y96;have F:=Fc.mk True.intro;have F:=fq2 @qlh (gdm hk);apply yR [0,1,2];apply b0e;intro _ n2 _ _;apply yVc (b3p l hl hli);apply n2
 ·apply b0m (b0a [0,1,2,7] _);simp only [b0r,b0k,b0i,b0f,b0n,Nat.reduceEqDiff,reduceIte];exact b0m (c0v 1 l.length _ rfl) c8s
 try simp only [b04,b09,Nat.reduceEqDiff,reduceIte,List.set_cons_zero,List.set_cons_succ]
 apply yR [0,1,2,7,8];apply yR [0,1,2,7,8];apply b0e;intros;apply yR [1,2,7,8,22,23,24];apply b0g;intros;apply b05 (fun j=>⟨[(1,.int .i64 (Nat.cast k)),(2,.str s),(7,.ref 0),(8,.ptr 1 0 0),(22,.sl (x3.map Zd)),(23,.int .i64 x3.length),(24,.int .i64 (Nat.cast j))],[.arr (l.map rQb) .deep,.box (.agg [.int .i64 x0,.int .i64 x1,.bool x2,.ref 2]) .mix,.arr (((x3.take j).filter fun z=> !decide (z=s)).map Zd) .flat],true,43,0⟩) (fun j=>j≤x3.length) (fun j=>x3.length - j) 0
 ·apply b1a [1,2,7,8,22,23,24] [1,3,4];rfl
 ·exact qle _
 ·rintro j hok9 Q9 n9 e9 r9;have hj1:j≤x3.length:=hok9;apply yR [1,2,7,8,22,23,24,25];apply b0e;intros;apply b0c _ rfl
  ·intro hc0;have hlt:j < x3.length:=by omega
   obtain ⟨y,hy⟩:∃y,x3[j]? =some y:=⟨_,qla hlt⟩;have hst:=f2o (s:=s) hy;have hfl:((x3.take j).filter fun z=> !decide (z=s)).length≤1048576:=ql7 (List.length_filter_le ..) (by rw [qlj];omega);apply zn [1,2,7,8,22,23,24];apply b0e;intros;apply b0g;intros;have F:=fq3 @qlh (gdm hk) (gdm hy);apply yR [1,2,7,8,10,22,23,24];apply yR [1,2,7,8,10,22,23,24,30];apply b0c _ rfl
   ·intro hc1;have hst2:((x3.take j).filter fun z=> !decide (z=s)).map Zd++[Zd y]=((x3.take (j+1)).filter fun z=> !decide (z=s)).map Zd:=by rw [hst,if_neg (by simpa using hc1)];simp only [aQ,fQ,List.map_append];try rfl
    apply yQ [1,2,7,8,22,23,24];apply (yV);apply n9 _ (j+1)
    ·apply b1a [1,2,7,8,22,23,24] [0,1,4]
     (try simp only [aQ,fQ]);rw [←hst2];rfl
    ·exact hlt
    ·show _ < _;omega
   ·intro hc1;have hst2:((x3.take j).filter fun z=> !decide (z=s))=((x3.take (j+1)).filter fun z=> !decide (z=s)):=by rw [hst,if_pos (by simpa using hc1)]
    apply zn [1,2,7,8,22,23,24];apply (yV);apply n9 _ (j+1)
    ·apply b1a [1,2,7,8,22,23,24] [0,1,2]
     (try simp only [aQ,fQ]);rw [←hst2];rfl
    ·exact hlt
    ·show _ < _;omega
  ·intro hc0;have hje:x3.take j=x3:=ql3 (by omega);rw [hje];apply zn [1,7,8];have F:=fq3 @qlh (gdm hk) hfin;apply yR [7];apply yR [6];apply (zr);exact rta
set_option maxRecDepth 100000 in
theorem d5q (n:Int) (ss:List TS) (fl:List TA) (ins:List TI) (ws:List TW) (s:ByteArray) (t:Int) (hl:fl.length≤1048576) (hil:ins.length≤1048576) (hin:∀x∈ins,x.2.2.2.length≤1048576) (hwl:ws.length≤1048576) (hwn:∀x∈ws,x.2.length≤1048576) (hls:∀t∈fl,t.1.size≤9223372036854775807) (hB:(b3g n ss fl ins ws)=true):Con prog 126 [kQ fl ins ws,.str s,.int .i64 t] [] (.tup [.agg [.ref 0,.ref 1,.ref 2],.bool (d8g fl s t)]) [aQ rQa (b3r (d8g fl s t) (f9i fl s t)),fQ rQb (b3r (d8g fl s t) (g5e ins s t)),fQ rQc (b3r (d8g fl s t) ws)]:=by
 have hF:=f4z hB;apply zcn [.cell 6 32,.tmp 7] [] func126 ntmps126;intro _ _ _;have T:=c2r Y3 Y4 Y9 Y28 Y29 Y30 Y32 Y41 Y48 Y81 Y96 Y98;have F:=Fc.mk True.intro;apply yR [1,2,3,6];apply yRc [1,2,3,6,8,9] (d0v fl s t hl hls hF);apply b0e;intros;apply yR [1,2,3,6,8,25];apply b0c _ rfl
 ·intro hc0;have hA:(d8g fl s t)=false:=by
   rw [d8g]
   by_cases q:t=1<;>cases q2:d48 fl s t<;>simp [q,q2] at hc0⊢
  apply yR [6,7];apply (zq3);simp only [aQ,fQ,hA,b3e,Zc,List.length_nil,b5t];exact rta
 ·intro hc0;have hA:(d8g fl s t)=true:=by
   rw [d8g]
   by_cases q:t=1<;>cases q2:d48 fl s t<;>simp [q,q2] at hc0⊢
  have hch:d48 fl s t=true:=by rw [d8g,qlg] at hA;exact hA.1
  simp only [hch,b14];apply zn [1,2,3,6,8];apply yRc [1,2,3,6,8,10] (b91 fl ins ws hl hil hin hwl hwn);apply yR [1,2,3,6,10];apply b0e;intros;apply yRc [1,2,3,6,10,11] (d2x ins s hil hin);apply yRg [1,3,6,10,11,41] (c2e t);apply b0c _ rfl
  ·intro hc1;have hcm:0≤b6k ins s∧¬(1≤t∧t≤3):=by
    have h:=hc1
    by_cases q:0≤b6k ins s<;>by_cases q2:1≤t<;>by_cases q3:t≤3<;>simp [c19,q,q2,q3] at h⊢<;>(first | done | omega)
   obtain ⟨m,⟨x0,x1,x2,x3⟩,hm1,hm2,hm3⟩:=c8n hcm.1;simp only [] at hm2;have hml:=(qlc.1 hm1).1;have hnl:=hin _ (qlb hm1);simp only [] at hnl;have hRI:=f4y hcm.2 hm3 hm1;simp only [] at hRI;have F:=fq3 hm3 @qlh (gdm hm1);apply yQc [6,10] (d9s ins m s x0 x1 x2 x3 hil hin hm1);apply b0e;intro _ n14 _ _;apply (yV);apply n14
   ·apply b0m (b0a [6,7] _);simp only [b0r,b0k,b0i,b0f,b0n,Nat.reduceEqDiff,reduceIte];exact d2u 13 _ (ins.set m (x0,x1,x2,x3.filter fun y=> !decide (y=s))).length rfl (qlu _)
   try simp only [b04,b09,Nat.reduceEqDiff,reduceIte,List.set_cons_zero,List.set_cons_succ]
   apply (zq3);simp only [hA,b14];rw [hRI];exact rta
  ·intro hc1;have hno:¬(0≤b6k ins s∧¬(1≤t∧t≤3)):=by
    intro hcm;have h:=hc1
    by_cases q:0≤b6k ins s<;>by_cases q2:1≤t<;>by_cases q3:t≤3<;>simp [c19,q,q2,q3] at h hcm<;>(first | done | omega)
   have hRI:=f5o hno;apply zn [6,10];apply yR [6,7];apply (zq3);simp only [hA,b14];rw [hRI];exact rta
end Go.Proofs.YtmbbjhopngejaaaGreat
