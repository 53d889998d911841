/- What functions compute. No condition. -/
import Derived.Test.YtmhaafinhpopmaaGreatUz
import Derived.Test.YtmhaafinhpopmaaGreatUty
set_option linter.unusedSimpArgs false
set_option linter.unusedVariables false
set_option linter.defProp false
namespace Go.Proofs.YtmhaafinhpopmaaGreat
open Go Go.Vm
set_option maxHeartbeats 8000000
theorem and255 (a:Int):0≤IntKind.i64.wrap (IntKind.u64.wrap ((BitVec.ofInt IntKind.u64.bits a &&& BitVec.ofInt IntKind.u64.bits 255).toNat:Int))∧IntKind.i64.wrap (IntKind.u64.wrap ((BitVec.ofInt IntKind.u64.bits a &&& BitVec.ofInt IntKind.u64.bits 255).toNat:Int))≤255:=by
  have h:(BitVec.ofInt IntKind.u64.bits a &&& BitVec.ofInt IntKind.u64.bits 255).toNat≤255:=by
    rw [BitVec.toNat_and];exact ql4 Nat.and_le_right (by decide)
  generalize (BitVec.ofInt IntKind.u64.bits a &&& BitVec.ofInt IntKind.u64.bits 255).toNat=n at h;have e:IntKind.u64.wrap (n:Int)=n:=by
    simp only [IntKind.wrap,IntKind.bits,IntKind.signed];simp;omega
  rw [e,wrap64 (by omega) (by omega)];omega
theorem tmod_in {x m:Int} (hx:0≤x) (hm:1 < m):0≤x.tmod m∧x.tmod m < m:=⟨Int.tmod_nonneg m hx,Int.tmod_lt_of_pos x (by omega)⟩
theorem next_con (code:List Int) (a s:Int) (hcode:∀x∈code,0≤x∧x≤255) (hcl:code.length≤9223372036854775807) (ha:0≤a∧a < 20000000000):ConX Tryz.prog 56 [.ptr 0 0 0] [.box (.agg [.sl (code.map (V.int .u8)),.int .i64 a,.int .u64 s]) .shal] (fun r O'=>∃(v:Int) (a' s':Int),(0≤v∧v≤255)∧(a≤a'∧a'≤a+1)∧r=.int .i64 v∧O'=[.box (.agg [.sl (code.map (V.int .u8)),.int .i64 a',.int .u64 s']) .shal]):=by
 refine v_conX [.tmp 2] [] Tryz.func56 rfl rfl rfl (by simp [Tryz.ntmps56]) ?_;intro Q0 n0 r0;simp only [Tryz.ntmps56,envFrom,Nat.reduceAdd];have T:=Tys.mk (ai Ty.t3 (ai Ty.t5 (ai Ty.t22 (ai Ty.t48 (ai Ty.t50 Ty.t110)))));have F:=Fc.mk True.intro;refine yR [0] ⟨?_⟩;refine yR [0,3] ⟨?_⟩;refine v_seq ?_;intro Q3 n3 e3 r3;refine v_seq ?_;intro Q4 n4 e4 r4;refine v_draw (by kernel_rfl) ?_;intro K5 q5 k5;show aAny _ _ _ _ 10 (Array.replicate 10 false) _;refine zdMove q5 true 0 4 ?_;refine zdNilCheck q5 true 1 5 ?_;refine zdFieldAddr q5 true 2 6 ?_;refine zdLoad q5 true 3 7 ?_;refine zdMove q5 true 4 8 ?_;refine zdNilCheck q5 true 5 9 ?_;refine zdFieldAddr q5 true 6 10 ?_;refine zdLoad q5 true 7 11 ?_;refine zdLen q5 true 8 12 ?_;refine zdBinOp q5 true 9 13 ?_;refine aAny_done (by kernel_rfl) ?_;refine k5 _ ?_;refine n4 _ _ (weak_keep [0,3,13] _) ?_;refine zk ⟨?_⟩;refine v_condS _ rfl ?_ ?_
 ·intro hc0;have hlt:a.toNat < code.length:=by omega
  obtain ⟨x,hx⟩:∃x,code[a.toNat]? =some x:=⟨code[a.toNat],qla hlt⟩;have hxb:=hcode x (qlb hx);have hxw:IntKind.i64.wrap x=x:=wrap64 (by omega) (by omega);refine v_draw (by kernel_rfl) ?_;intro K7 q7 k7;show aAny _ _ _ _ 12 (Array.replicate 12 false) _;have F:=Fc.mk (ai (gdm hx) hxw);refine zdMove q7 true 0 14 ?_;refine zdNilCheck q7 true 1 15 ?_;refine zdFieldAddr q7 true 2 16 ?_;refine zdLoad q7 true 3 17 ?_;refine zdMove q7 true 4 18 ?_;refine zdNilCheck q7 true 5 19 ?_;refine zdFieldAddr q7 true 6 20 ?_;refine zdLoad q7 true 7 21 ?_;refine zdIndexAddr q7 true 8 22 ?_;refine zdLoad q7 true 9 23 ?_;refine zdConvert q7 true 10 24 ?_;refine zoAssign 11 ⟨?_⟩;refine aAny_done (by kernel_rfl) ?_;refine k7 _ ?_;refine n3 _ _ (weak_keep [0,3] _) ?_;refine zk ⟨?_⟩;refine yR [0,3] ⟨?_⟩;refine yR [0,3] ⟨?_⟩;refine v_seq ?_;intros;refine v_seq ?_;intro Q11 n11 e11 r11;refine v_draw (by kernel_rfl) ?_;intro K12 q12 k12;show aAny _ _ _ _ 10 (Array.replicate 10 false) _;refine zdMove q12 true 0 44 ?_;refine zdNilCheck q12 true 1 45 ?_;refine zdFieldAddr q12 true 2 46 ?_;refine zdLoad q12 true 3 47 ?_;refine zdMove q12 true 4 48 ?_;refine zdNilCheck q12 true 5 49 ?_;refine zdFieldAddr q12 true 6 50 ?_;refine zdLoad q12 true 7 51 ?_;refine zdLen q12 true 8 52 ?_;refine zdBinOp q12 true 9 53 ?_;refine aAny_done (by kernel_rfl) ?_;refine k12 _ ?_;refine n11 _ _ (weak_keep [0,3,53] _) ?_;refine zk ⟨?_⟩;refine v_condS _ rfl ?_ ?_
  ·intro hc1;refine yR [2] ⟨?_⟩;refine zr ⟨?_⟩;refine ret_viewX ?_;exact ⟨_,_,_,by omega,by omega,rfl,rfl⟩
  ·intro hc1;refine zn [0] ⟨?_⟩;refine yR [2] ⟨?_⟩;refine zr ⟨?_⟩;refine ret_viewX ?_;exact ⟨_,_,_,and255 _,by omega,rfl,rfl⟩
 ·intro hc0;refine zn [0,3] ⟨?_⟩;refine yR [0,3] ⟨?_⟩;refine yR [0,3] ⟨?_⟩;refine v_seq ?_;intros;refine v_seq ?_;intro Q19 n19 e19 r19;refine v_draw (by kernel_rfl) ?_;intro K20 q20 k20;show aAny _ _ _ _ 10 (Array.replicate 10 false) _;refine zdMove q20 true 0 44 ?_;refine zdNilCheck q20 true 1 45 ?_;refine zdFieldAddr q20 true 2 46 ?_;refine zdLoad q20 true 3 47 ?_;refine zdMove q20 true 4 48 ?_;refine zdNilCheck q20 true 5 49 ?_;refine zdFieldAddr q20 true 6 50 ?_;refine zdLoad q20 true 7 51 ?_;refine zdLen q20 true 8 52 ?_;refine zdBinOp q20 true 9 53 ?_;refine aAny_done (by kernel_rfl) ?_;refine k20 _ ?_;refine n19 _ _ (weak_keep [0,3,53] _) ?_;refine zk ⟨?_⟩;refine v_condS _ rfl ?_ ?_
  ·intro hc2;refine yR [2] ⟨?_⟩;refine zr ⟨?_⟩;refine ret_viewX ?_;exact ⟨_,_,_,by omega,by omega,rfl,rfl⟩
  ·intro hc2;refine zn [0] ⟨?_⟩;refine yR [2] ⟨?_⟩;refine zr ⟨?_⟩;refine ret_viewX ?_;exact ⟨_,_,_,and255 _,by omega,rfl,rfl⟩
theorem pick_con (code:List Int) (a s:Int) (m:Int) (hcode:∀x∈code,0≤x∧x≤255) (hcl:code.length≤9223372036854775807) (ha:0≤a∧a < 19000000000):ConX Tryz.prog 23 [.ptr 0 0 0,.int .i64 m] [.box (.agg [.sl (code.map (V.int .u8)),.int .i64 a,.int .u64 s]) .shal] (fun r O'=>∃(v:Int) (a' s':Int),(0≤v∧(v < m∨(m≤1∧v=0)))∧(a≤a'∧a'≤a+2)∧r=.int .i64 v∧O'=[.box (.agg [.sl (code.map (V.int .u8)),.int .i64 a',.int .u64 s']) .shal]):=by
 refine v_conX [.tmp 4] [(56,[0])] Tryz.func23 rfl rfl rfl (by simp [Tryz.ntmps23]) ?_;intro Q0 n0 r0;simp only [Tryz.ntmps23,envFrom,Nat.reduceAdd];have T:=Tys.mk (ai Ty.t3 (ai Ty.t5 (ai Ty.t22 (ai Ty.t47 (ai Ty.t48 Ty.t50)))));have F:=Fc.mk True.intro;refine yR [0,1] ⟨?_⟩;refine v_seq ?_;intros;refine yR [0,1,7] ⟨?_⟩;refine v_condS _ rfl ?_ ?_
 ·intro hc0;refine yR [4] ⟨?_⟩;refine zr ⟨?_⟩;refine ret_viewX ?_;exact ⟨0,_,_,by omega,by omega,rfl,rfl⟩
 ·intro hc0;refine zn [0,1] ⟨?_⟩;refine v_seqR [0,1,5] ?_;intro K6 k6;refine zMove ⟨?_⟩;refine zxl (next_con code a s hcode hcl (by omega)) ⟨?_⟩;rintro _ _ ⟨v9,a9,s9,h9,k9,rfl,rfl⟩;refine zq13 ⟨?_⟩;refine k6 _ ?_;refine zk ⟨?_⟩;refine v_seq ?_;intro Q7 n7 e7 r7;refine yR [0,1,5,11] ⟨?_⟩;refine v_condS _ rfl ?_ ?_
  ·intro hc1;refine v_region ?_;intro K10 k10;refine zMove ⟨?_⟩;refine zBinOpW ⟨?_⟩;refine zMove ⟨?_⟩;refine zxl (next_con code a9 s9 hcode hcl (by omega)) ⟨?_⟩;rintro _ _ ⟨v15,a15,s15,h15,k15,rfl,rfl⟩;refine zEl ⟨?_⟩;refine zBinOpW ⟨?_⟩;refine zAssign ⟨?_⟩;refine k10 _ ?_;refine n7 _ _ (weak_keep [1,5] _) ?_;refine zk ⟨?_⟩;refine yR [4] ⟨?_⟩;refine zr ⟨?_⟩;have hm1:1 < m:=by omega
   have ht:=tmod_in (x:=v9 * 256+v15) (m:=m) (by omega) hm1;refine ret_viewX ?_;exact ⟨_,_,_,by omega,by omega,rfl,rfl⟩
  ·intro hc1;refine zn [1,5] ⟨?_⟩;refine yR [4] ⟨?_⟩;refine zr ⟨?_⟩;have hm1:1 < m:=by omega
   have ht:=tmod_in (x:=v9) (m:=m) (by omega) hm1;refine ret_viewX ?_;exact ⟨_,_,_,by omega,by omega,rfl,rfl⟩
theorem one_con (code:List Int) (a s:Int) (m:Int) (hcode:∀x∈code,0≤x∧x≤255) (hcl:code.length≤9223372036854775807) (ha:0≤a∧a < 18000000000):ConX Tryz.prog 22 [.ptr 0 0 0,.int .i64 m] [.box (.agg [.sl (code.map (V.int .u8)),.int .i64 a,.int .u64 s]) .shal] (fun r O'=>∃(v:Bool) (a' s':Int),(True)∧(a≤a'∧a'≤a+2)∧r=.bool v∧O'=[.box (.agg [.sl (code.map (V.int .u8)),.int .i64 a',.int .u64 s']) .shal]):=by
 refine v_conX [.tmp 4] [(23,[0])] Tryz.func22 rfl rfl rfl (by simp [Tryz.ntmps22]) ?_;intro Q0 n0 r0;simp only [Tryz.ntmps22,envFrom,Nat.reduceAdd];have T:=Tys.mk (ai Ty.t3 (ai Ty.t5 (ai Ty.t22 (ai Ty.t47 (ai Ty.t48 Ty.t50)))));have F:=Fc.mk True.intro;refine yR [0,1] ⟨?_⟩;refine v_seqR [4] ?_;intro K2 k2;refine zq2 ⟨?_⟩;refine zxl (pick_con code a s (m) hcode hcl (by omega)) ⟨?_⟩;rintro _ _ ⟨v7,a7,s7,h7,k7,rfl,rfl⟩;refine zEl ⟨?_⟩;refine zBinOp ⟨?_⟩;refine zAssign ⟨?_⟩;refine k2 _ ?_;refine zq1 ⟨?_⟩;refine ret_viewX ?_;exact ⟨_,_,_,trivial,by omega,rfl,rfl⟩
theorem among_con (code:List Int) (a s:Int) (l:List Int) (hl:0 < l.length∧l.length≤1048576) (hcode:∀x∈code,0≤x∧x≤255) (hcl:code.length≤9223372036854775807) (ha:0≤a∧a < 18000000000):ConX Tryz.prog 55 [.ptr 0 0 0,.ref 1] [.box (.agg [.sl (code.map (V.int .u8)),.int .i64 a,.int .u64 s]) .shal,.arr (l.map (V.int .i64)) .flat] (fun r O'=>∃(v:Int) (a' s':Int),(v∈l)∧(a≤a'∧a'≤a+2)∧r=.int .i64 v∧O'=[.box (.agg [.sl (code.map (V.int .u8)),.int .i64 a',.int .u64 s']) .shal,.arr (l.map (V.int .i64)) .flat]):=by
 refine v_conX [.tmp 4] [(23,[0])] Tryz.func55 rfl rfl rfl (by simp [Tryz.ntmps55]) ?_;intro Q0 n0 r0;simp only [Tryz.ntmps55,envFrom,Nat.reduceAdd];have T:=Tys.mk (ai Ty.t3 (ai Ty.t5 (ai Ty.t22 (ai Ty.t28 (ai Ty.t47 (ai Ty.t48 Ty.t50))))));have F:=Fc.mk True.intro;refine yR [0,1] ⟨?_⟩;refine v_seqR [4] ?_;intro K2 k2;refine zq2 ⟨?_⟩;refine zq10 ⟨?_⟩;refine zxl (pick_con code a s ((l.length:Int)) hcode hcl (by omega)) ⟨?_⟩;rintro _ _ ⟨v9,a9,s9,h9,k9,rfl,rfl⟩;obtain ⟨x,hx⟩:∃x,l[v9.toNat]? =some x:=⟨l[v9.toNat]'(by omega),qla (by omega)⟩;refine zEl ⟨?_⟩;have F:=Fc.mk (gdm hx);refine zIndexAddr ⟨?_⟩;refine zLoad ⟨?_⟩;refine zAssign ⟨?_⟩;refine k2 _ ?_;refine zq1 ⟨?_⟩;refine ret_viewX ?_;exact ⟨_,_,_,qlb hx,by omega,rfl,rfl⟩
theorem u8_all {c:List Int} (h:∀a∈c,(Lit.int .u8 a).wf=true):∀x∈c,0≤x∧x≤255:=by
  intro x hx;have:=h x hx;simp [Lit.wf,IntKind.min,IntKind.max,IntKind.signed,IntKind.bits] at this;omega
def dropOw (ow:Ow) (id:Nat):Ow:=fun b=>match ow b with
  | some (r,j)=>if j=id then none else some (r,j)
  | none=>none
theorem dropOw_ne {ow:Ow} {id b:Nat} (h:dropOw ow id b≠none):ow b≠none:=fun e=>h (by simp [dropOw,e])
theorem dropOw_keep {ow:Ow} {id b j:Nat} {r:Bool} (h:ow b=some (r,j)) (hj:j≠id):dropOw ow id b=ow b:=by simp [dropOw,h,hj]
theorem dropOw_in {ow:Ow} {id b:Nat} {r:Bool} (h:ow b=some (r,id)):dropOw ow id b=none:=by simp [dropOw,h]
theorem vok_drop {cx:Cx} {ow:Ow} {vw:Bool} {b:Nat} (id:Nat) (h:VOK cx ow vw b):VOK cx (dropOw ow id) vw b:=by
  refine ⟨?_,h.2⟩;rcases h.1 with e | ⟨v,j,e⟩
  · exact .inl (by simp [dropOw,e])
  · by_cases q:j=id
    · exact .inl (by subst q;exact dropOw_in e)
    · exact .inr ⟨v,j,by rw [dropOw_keep e q];exact e⟩
theorem row_drop {cx:Cx} {w:World} {μ:Nat→Option Vm.Loc} {ow:Ow} {vw:Bool} {id j:Nat} {xs:List V} {k:Kd} (hj:j≠id) (h:RowOK cx w μ ow vw j xs k):RowOK cx w μ (dropOw ow id) vw j xs k:=by
  obtain ⟨l,h1,h2,h3⟩:=h;refine ⟨l,h1,h2,h3.imp (fun z=>z) fun ⟨a1,a2,bl,a3,a4,a5⟩=>⟨a1,(dropOw_keep a2 hj).trans a2,bl,a3,?_,a5⟩⟩;cases k with
  | flat=>exact a4
  | thin=>exact a4
  | deep | part=>exact ⟨a4.1,fun b hb=>(dropOw_keep (a4.2 b hb) hj).trans (a4.2 b hb)⟩
  | shal=>exact fun b hb=>vok_drop id (a4 b hb)
  | mix=>exact fun b hb=>vok_drop id (a4 b hb)
theorem weak_giveup {m:Nat} {s:St} (t i:Nat) (xs:List V) (k:Kd) (ht:s.get t=.ref i) (hO:s.O[i]? =some (.arr xs k)) (hk:k=.flat∨k=.deep∨k=.thin):Weak m s {s with env:=(t,.sl xs)::s.env,O:=s.O.set i .dead}:=by
  intro cx a w μ ow hmu h;have hli:i < s.O.length:=(qlc.1 hO).1;have htc:takeCell s (.ref i)=some (.sl xs,[i],false):=by
    simp only [takeCell,St.row,hO,Option.bind_some,Blk.row];rcases hk with e | e | e<;>subst e<;>rfl
  refine ⟨μ,dropOw ow i,h.dfr,h.sz,fun t2=> ?_,fun j bk e=> ?_,fun j hj=>h.dom j (by rwa [qln] at hj),fun b hb=>h.owl b (dropOw_ne hb),fun b hb=>h.own b (dropOw_ne hb),h.frm,h.mu⟩
  · obtain ⟨bl,r1,r2⟩:=h.env t2
    show ∃bl,Rep w μ (Vm.look t2 ((t,V.sl xs)::s.env)) _ bl∧_;rw [look_cons]
    by_cases q:t2=t
    · subst q
      rw [if_pos rfl];rw [ht] at r1;obtain ⟨bl',t1,_,_,t4,_⟩:=takeCell_rep h.sup r1 r2 htc;obtain ⟨_,own⟩:=t4 rfl;refine ⟨bl',t1.keep (MLe.zero μ) fun _ _=>rfl,fun b hb=> ?_⟩;obtain ⟨j,hj,r,e⟩:=own b hb;rw [qli] at hj;subst hj;exact ⟨.inl (dropOw_in e),.inr (h.own b (by rw [e];simp))⟩
    · rw [if_neg q]
      exact ⟨bl,r1,fun b hb=>vok_drop i (r2 b hb)⟩
  · have e2:(s.O.set i .dead)[j]? =some bk:=e
    by_cases q:j=i
    · subst q
      rw [qlj hli] at e2;simp only [Option.some.injEq] at e2;subst e2;trivial
    · rw [qlq (fun z=>q z.symm)] at e2
      have:=h.blk j bk e2;cases bk with
      | dead=>trivial
      | arr ys k2=>exact row_drop q this
      | box y k2=>exact row_drop q this
      | hid j n=>exact this
theorem weak_giveB {m:Nat} {s:St} (b i:Nat) (pre post xs:List V) (k:Kd) (hb:s.O[b]? =some (.box (.agg (pre++.ref i::post)) .mix)) (hO:s.O[i]? =some (.arr xs k)) (hk:k=.flat∨k=.deep∨k=.thin) (hne:b≠i) :
    Weak m s {s with O:=(s.O.set b (.box (.agg (pre++.sl xs::post)) .mix)).set i .dead}:=by
  intro cx a w μ ow hmu h;have hli:i < s.O.length:=(qlc.1 hO).1;have hlb:b < s.O.length:=(qlc.1 hb).1;have htc:takeCell s (.ref i)=some (.sl xs,[i],false):=by
    simp only [takeCell,St.row,hO,Option.bind_some,Blk.row];rcases hk with e | e | e<;>subst e<;>rfl
  refine ⟨μ,dropOw ow i,h.dfr,h.sz,fun t2=> ?_,fun j bk e=> ?_,fun j hj=>h.dom j (by rwa [qln,qln] at hj),fun y hy=>h.owl y (dropOw_ne hy),fun y hy=>h.own y (dropOw_ne hy),h.frm,h.mu⟩
  · obtain ⟨bl,r1,r2⟩:=h.env t2
    exact ⟨bl,r1,fun y hy=>vok_drop i (r2 y hy)⟩
  · by_cases q:j=i
    · subst q
      rw [qlj (by rw [qln];exact hli)] at e;simp only [Option.some.injEq] at e;subst e;trivial
    · rw [qlq (fun z=>q z.symm)] at e
      by_cases qb:j=b
      · subst qb
        rw [qlj hlb] at e;simp only [Option.some.injEq] at e;subst e;obtain ⟨l,q1,q2,q3⟩:=h.blk j _ hb;rcases q3 with ⟨_,q3⟩ | ⟨q3,q4,bl,⟨c1,c2,c3,c,tc,vs,c4,c5,c6,c7,c8⟩,q6,_⟩
        · cases q3
        have c6':RepL w μ (pre++V.ref i::post) vs bl:=by simpa [V.cells,Kd.mu] using c6
        obtain ⟨x1,x23,b1,b23,ev1,eb1,r1,r23⟩:=RepL.split pre (.ref i::post) c6';cases r23 with
        | cons _ x bx _ x3 b3 hx r3=>
          have hbx:bx=[]:=by cases hx;rfl
          subst hbx;obtain ⟨bl',t1,_,_,t4,_⟩:=takeCell_rep h.sup hx (by simp) htc;obtain ⟨_,own⟩:=t4 rfl;have hv:∀y∈bl,VOK cx ow s.vw y:=q6;refine ⟨l,q1,q2,.inr ⟨q3,(dropOw_keep q4 q).trans q4,b1++(bl'++b3),⟨c1,c2,?_,c,tc,vs,c4,c5,?_,c7,c8⟩,?_,fun _=>by simp⟩⟩
          · intro y hy
            rw [qli] at hy;subst hy;rw [←c3 _ (qli.2 rfl)];simp [V.cells]
          · have:RepL w μ (pre++V.sl xs::post) vs (b1++(bl'++b3)):=by
              rw [ev1];exact r1.append (RepL.cons _ _ _ _ _ _ (t1.keep (MLe.zero μ) fun _ _=>rfl) r3)
            simpa [V.cells,Kd.mu] using this
          · show ∀y∈b1++(bl'++b3),VOK cx (dropOw ow i) s.vw y
            intro y hy;rcases qll.1 hy with hy | hy
            · exact vok_drop i (hv y (by rw [eb1];simp [hy]))
            · rcases qll.1 hy with hy | hy
              · obtain ⟨j2,hj,r,e⟩:=own y hy
                rw [qli] at hj;subst hj;exact ⟨.inl (dropOw_in e),.inr (h.own y (by rw [e];simp))⟩
              · exact vok_drop i (hv y (by rw [eb1];simp [hy]))
      · rw [qlq (fun z=>qb z.symm)] at e
        have:=h.blk j bk e;cases bk with
        | dead=>trivial
        | arr ys k2=>exact row_drop q this
        | box y k2=>exact row_drop q this
        | hid j n=>exact this
theorem nbeq (b:Bool):(!b == b)=false:=by cases b<;>rfl
theorem of_con (code:List Int) (a s:Int) (l:List ByteArray) (hl:0 < l.length∧l.length≤1048576) (hcode:∀x∈code,0≤x∧x≤255) (hcl:code.length≤9223372036854775807) (ha:0≤a∧a < 18000000000):ConX Tryz.prog 81 [.ptr 0 0 0,.ref 1] [.box (.agg [.sl (code.map (V.int .u8)),.int .i64 a,.int .u64 s]) .shal,.arr (l.map V.str) .flat] (fun r O'=>∃(v:ByteArray) (a' s':Int),(v∈l)∧(a≤a'∧a'≤a+2)∧r=.str v∧O'=[.box (.agg [.sl (code.map (V.int .u8)),.int .i64 a',.int .u64 s']) .shal,.arr (l.map V.str) .flat]):=by
 refine v_conX [.tmp 4] [(23,[0])] Tryz.func81 rfl rfl rfl (by simp [Tryz.ntmps81]) ?_;intro Q0 n0 r0;simp only [Tryz.ntmps81,envFrom,Nat.reduceAdd];have T:=Tys.mk (ai Ty.t3 (ai Ty.t5 (ai Ty.t9 (ai Ty.t22 (ai Ty.t38 (ai Ty.t47 (ai Ty.t48 Ty.t50)))))));have F:=Fc.mk True.intro;refine yR [0,1] ⟨?_⟩;refine v_seqR [4] ?_;intro K2 k2;refine zq2 ⟨?_⟩;refine zq10 ⟨?_⟩;refine zxl (pick_con code a s ((l.length:Int)) hcode hcl (by omega)) ⟨?_⟩;rintro _ _ ⟨v9,a9,s9,h9,k9,rfl,rfl⟩;obtain ⟨x,hx⟩:∃x,l[v9.toNat]? =some x:=⟨l[v9.toNat]'(by omega),qla (by omega)⟩;refine zEl ⟨?_⟩;have F:=Fc.mk (gdm hx);refine zIndexAddr ⟨?_⟩;refine zLoad ⟨?_⟩;refine zAssign ⟨?_⟩;refine k2 _ ?_;refine zq1 ⟨?_⟩;refine ret_viewX ?_;exact ⟨_,_,_,qlb hx,by omega,rfl,rfl⟩
theorem limitSeconds_con (code:List Int) (a s:Int) (hcode:∀x∈code,0≤x∧x≤255) (hcl:code.length≤9223372036854775807) (ha:0≤a∧a < 17000000000):ConX Tryz.prog 25 [.ptr 0 0 0] [.box (.agg [.sl (code.map (V.int .u8)),.int .i64 a,.int .u64 s]) .shal] (fun r O'=>∃(v:Int) (a' s':Int),(-1≤v∧v≤36001)∧(a≤a'∧a'≤a+6)∧r=.int .i64 v∧O'=[.box (.agg [.sl (code.map (V.int .u8)),.int .i64 a',.int .u64 s']) .shal]):=by
 refine v_conX [.tmp 2] [(55,[0,1]),(23,[0])] Tryz.func25 rfl rfl rfl (by simp [Tryz.ntmps25]) ?_;intro Q0 n0 r0;simp only [Tryz.ntmps25,envFrom,Nat.reduceAdd];have T:=Tys.mk (ai Ty.t3 (ai Ty.t5 (ai Ty.t22 (ai Ty.t28 (ai Ty.t47 (ai Ty.t48 Ty.t50))))));have F:=Fc.mk True.intro;refine yR [0] ⟨?_⟩;refine v_seqR [2] ?_;intro K2 k2;refine zq2 ⟨?_⟩;refine zxl (pick_con code a s (400) hcode hcl (by omega)) ⟨?_⟩;rintro _ _ ⟨v5,a5,s5,h5,k5,rfl,rfl⟩;refine zEl ⟨?_⟩;refine zq4 ⟨?_⟩;refine zxt (among_con code a5 s5 [-1,36001] (by simp) hcode hcl (by omega)) ⟨?_⟩;rintro _ _ ⟨v8,a8,s8,h8,k8,rfl,rfl⟩;refine zEt ⟨?_⟩;simp only [List.mem_cons,List.not_mem_nil,or_false] at h8;refine zBuildSlice ⟨?_⟩;refine zxt (among_con code a8 s8 [0,30,60,120,300,36000,v5,v8] (by simp) hcode hcl (by omega)) ⟨?_⟩;rintro _ _ ⟨v10,a10,s10,h10,k10,rfl,rfl⟩;refine zEt ⟨?_⟩;simp only [List.mem_cons,List.not_mem_nil,or_false] at h10;refine zAssign ⟨?_⟩;refine k2 _ ?_;refine zq1 ⟨?_⟩;refine ret_viewX ?_;exact ⟨_,_,_,by omega,by omega,rfl,rfl⟩
theorem big_con (c1 c2:List Int) (h1:c1.length≤9223372036854775807) (h2:c2.length≤9223372036854775807):Con Tryz.prog 4 [.sl (c1.map (V.int .u8)),.sl (c2.map (V.int .u8))] [] (.bool (decide ((c1.length:Int) > 1048576) || decide ((c2.length:Int) > 1048576 - c1.length))) []:=by
 refine v_con [.tmp 4] [] Tryz.func4 rfl rfl rfl (by simp [Tryz.ntmps4]) ?_;intro Q0 n0 r0;simp only [Tryz.ntmps4,envFrom,Nat.reduceAdd];have T:=Tys.mk (ai Ty.t3 (ai Ty.t5 Ty.t22));have F:=Fc.mk True.intro;refine yR [0,1] ⟨?_⟩;refine yR [4] ⟨?_⟩;refine zr ⟨?_⟩;exact ret_pure rfl (by first | rfl | simp) (.inl rfl)
end Go.Proofs.YtmhaafinhpopmaaGreat
