/- What functions compute. No condition. -/
import Derived.Test.YtmhaafinhpopmaaGreatDoorX5
set_option linter.unusedSimpArgs false
set_option linter.unusedVariables false
set_option linter.defProp false
namespace Go.Proofs.YtmhaafinhpopmaaGreatDoor
open Go Go.Vm
set_option maxHeartbeats 8000000
def dropOw (ow:Ow) (id:Nat):Ow:=fun b=>match ow b with
  | some (r,j)=>if j=id then none else some (r,j)
  | none=>none
theorem dropOw_ne {ow:Ow} {id b:Nat} (h:dropOw ow id b≠none):ow b≠none:=fun e=>h (by simp [dropOw,e])
theorem dropOw_keep {ow:Ow} {id b j:Nat} {r:Bool} (h:ow b=some (r,j)) (hj:j≠id):dropOw ow id b=ow b:=by simp [dropOw,h,hj]
theorem dropOw_in {ow:Ow} {id b:Nat} {r:Bool} (h:ow b=some (r,id)):dropOw ow id b=none:=by simp [dropOw,h]
theorem vok_drop {cx:Cx} {ow:Ow} {vw:Bool} {b:Nat} (id:Nat) (h:VOK cx ow vw b):VOK cx (dropOw ow id) vw b:=by
  refine ⟨?_,h.2⟩;rcases h.1 with e | ⟨v,j,e⟩
  · exact .inl (by simp [dropOw,e])
  · by_cases q:j=id
    · exact .inl (by subst q;exact dropOw_in e)
    · exact .inr ⟨v,j,by rw [dropOw_keep e q];exact e⟩
theorem row_drop {cx:Cx} {w:World} {μ:Nat→Option Vm.Loc} {ow:Ow} {vw:Bool} {id j:Nat} {xs:List V} {k:Kd} (hj:j≠id) (h:RowOK cx w μ ow vw j xs k):RowOK cx w μ (dropOw ow id) vw j xs k:=by
  obtain ⟨l,h1,h2,h3⟩:=h;refine ⟨l,h1,h2,h3.imp (fun z=>z) fun ⟨a1,a2,bl,a3,a4,a5⟩=>⟨a1,(dropOw_keep a2 hj).trans a2,bl,a3,?_,a5⟩⟩;cases k with
  | flat=>exact a4
  | thin=>exact a4
  | deep | part=>exact ⟨a4.1,fun b hb=>(dropOw_keep (a4.2 b hb) hj).trans (a4.2 b hb)⟩
  | shal=>exact fun b hb=>vok_drop id (a4 b hb)
  | mix=>exact fun b hb=>vok_drop id (a4 b hb)
theorem weak_giveup {m:Nat} {s:St} (t i:Nat) (xs:List V) (k:Kd) (ht:s.get t=.ref i) (hO:s.O[i]? =some (.arr xs k)) (hk:k=.flat∨k=.deep∨k=.thin):Weak m s {s with env:=(t,.sl xs)::s.env,O:=s.O.set i .dead}:=by
  intro cx a w μ ow hmu h;have hli:i < s.O.length:=(qlt.1 hO).1;have htc:takeCell s (.ref i)=some (.sl xs,[i],false):=by
    simp only [takeCell,St.row,hO,Option.bind_some,Blk.row];rcases hk with e | e | e<;>subst e<;>rfl
  refine ⟨μ,dropOw ow i,h.dfr,h.sz,fun t2=> ?_,fun j bk e=> ?_,fun j hj=>h.dom j (by rwa [ql6] at hj),fun b hb=>h.owl b (dropOw_ne hb),fun b hb=>h.own b (dropOw_ne hb),h.frm,h.mu⟩
  · obtain ⟨bl,r1,r2⟩:=h.env t2
    show ∃bl,Rep w μ (Vm.look t2 ((t,V.sl xs)::s.env)) _ bl∧_;rw [look_cons]
    by_cases q:t2=t
    · subst q
      rw [if_pos rfl];rw [ht] at r1;obtain ⟨bl',t1,_,_,t4,_⟩:=takeCell_rep h.sup r1 r2 htc;obtain ⟨_,own⟩:=t4 rfl;refine ⟨bl',t1.keep (MLe.zero μ) fun _ _=>rfl,fun b hb=> ?_⟩;obtain ⟨j,hj,r,e⟩:=own b hb;rw [qlq] at hj;subst hj;exact ⟨.inl (dropOw_in e),.inr (h.own b (by rw [e];simp))⟩
    · rw [if_neg q]
      exact ⟨bl,r1,fun b hb=>vok_drop i (r2 b hb)⟩
  · have e2:(s.O.set i .dead)[j]? =some bk:=e
    by_cases q:j=i
    · subst q
      rw [List.getElem?_set_self hli] at e2;simp only [Option.some.injEq] at e2;subst e2;trivial
    · rw [List.getElem?_set_ne (fun z=>q z.symm)] at e2
      have:=h.blk j bk e2;cases bk with
      | dead=>trivial
      | arr ys k2=>exact row_drop q this
      | box y k2=>exact row_drop q this
      | hid j n=>exact this
theorem of_con (code:List Int) (a s:Int) (l:List ByteArray) (hl:0 < l.length∧l.length≤1048576) (hcode:∀x∈code,0≤x∧x≤255) (hcl:code.length≤9223372036854775807) (ha:0≤a∧a < 18000000000):ConX Tryz.prog 69 [.ptr 0 0 0,.ref 1] [.box (.agg [.sl (code.map (V.int .u8)),.int .i64 a,.int .u64 s]) .shal,.arr (l.map V.str) .flat] (fun r O'=>∃(v:ByteArray) (a' s':Int),(v∈l)∧(a≤a'∧a'≤a+2)∧r=.str v∧O'=[.box (.agg [.sl (code.map (V.int .u8)),.int .i64 a',.int .u64 s']) .shal,.arr (l.map V.str) .flat]):=by
 refine v_conX [.tmp 4] [(62,[0])] Tryz.func69 rfl rfl rfl (by simp [Tryz.ntmps69]) ?_;intro Q0 n0 r0;simp only [Tryz.ntmps69,envFrom,Nat.reduceAdd];have T:=Tys.mk (ai Ty.t3 (ai Ty.t5 (ai Ty.t9 (ai Ty.t22 (ai Ty.t59 (ai Ty.t83 (ai Ty.t84 Ty.t86)))))));have F:=Fc.mk True.intro;refine yR [0,1] ⟨?_⟩;refine v_seqR [4] ?_;intro K2 k2;refine zq2 ⟨?_⟩;refine zMove ⟨?_⟩;refine zLen ⟨?_⟩;refine zxl (pick_con code a s ((l.length:Int)) hcode hcl (by omega)) ⟨?_⟩;rintro _ _ ⟨v9,a9,s9,h9,k9,rfl,rfl⟩;obtain ⟨x,hx⟩:∃x,l[v9.toNat]? =some x:=⟨l[v9.toNat]'(by omega),qla (by omega)⟩;refine zEl ⟨?_⟩;have F:=Fc.mk (gdm hx);refine zIndexAddr ⟨?_⟩;refine zLoad ⟨?_⟩;refine zAssign ⟨?_⟩;refine k2 _ ?_;refine zq1 ⟨?_⟩;refine ret_viewX ?_;exact ⟨_,_,_,qlb hx,by omega,rfl,rfl⟩
theorem big_con (c1 c2:List Int) (h1:c1.length≤9223372036854775807) (h2:c2.length≤9223372036854775807):Con Tryz.prog 5 [.sl (c1.map (V.int .u8)),.sl (c2.map (V.int .u8))] [] (.bool (decide ((c1.length:Int) > 1048576) || decide ((c2.length:Int) > 1048576 - c1.length))) []:=by
 refine v_con [.tmp 4] [] Tryz.func5 rfl rfl rfl (by simp [Tryz.ntmps5]) ?_;intro Q0 n0 r0;simp only [Tryz.ntmps5,envFrom,Nat.reduceAdd];have T:=Tys.mk (ai Ty.t3 (ai Ty.t5 Ty.t22));have F:=Fc.mk True.intro;refine yR [0,1] ⟨?_⟩;refine yR [4] ⟨?_⟩;refine zr ⟨?_⟩;exact ret_pure rfl (by first | rfl | simp) (.inl rfl)
theorem sameInts_con (l:List (Int)) (hl:l.length≤1048576):Con Tryz.prog 14 [.sl (l.map (V.int .i64)),.sl (l.map (V.int .i64))] [] (.bool true) []:=by
 refine v_con [.tmp 4] [] Tryz.func14 rfl rfl rfl (by simp [Tryz.ntmps14]) ?_;intro Q0 n0 r0;simp only [Tryz.ntmps14,envFrom,Nat.reduceAdd];have T:=Tys.mk (ai Ty.t3 Ty.t35);have F:=Fc.mk True.intro;refine yR [0,1] ⟨?_⟩;refine v_seq ?_;intros;refine yR [0,1,10] ⟨?_⟩;refine v_cond _ rfl ?_ ?_
 ·intro hc0;exfalso;simp at hc0
 ·intro hc0;try simp only [zC,reduceCtorEq] at hc0
  refine zn [0,1] ⟨?_⟩;refine v_seq ?_;intros;refine yR [0,1,12,13] ⟨?_⟩;refine v_block ?_;intros;refine v_loop (fun i=>⟨[(0,.sl (l.map (V.int .i64))),(1,.sl (l.map (V.int .i64))),(12,.int .i64 l.length),(13,.int .i64 (Nat.cast i))],[],false,26,0⟩) (fun i=>i≤l.length) (fun i=>l.length - i) 0 ?_ ?_ ?_
  ·refine weak_of [0,1,12,13] ?_;simp only [keep_mk,keepE_nil,keepE_cons,look_cons,look_nil,Nat.reduceEqDiff,reduceIte];rfl
  ·exact qlo _
  ·rintro i hok8 Q8 n8 e8 r8;have hi1:i≤l.length:=hok8;refine yR [0,1,12,13,14] ⟨?_⟩;refine v_seq ?_;intros;refine v_condS _ rfl ?_ ?_
   ·intro hc1;have hlt:i < l.length:=by omega
    obtain ⟨x,hx⟩:∃x,l[i]? =some x:=⟨l[i],qla hlt⟩;refine zn [0,1,12,13] ⟨?_⟩;refine v_seq ?_;intros;refine v_block ?_;intros;have F:=Fc.mk (gdm hx);refine yR [0,1,5,12,13] ⟨?_⟩;refine v_seq ?_;intro Q15 n15 e15 r15;refine v_draw (by kernel_rfl) ?_;intro K16 q16 k16;show aAny _ _ _ _ 9 (Array.replicate 9 false) _;refine zdMove q16 true 0 16 ?_;refine zdMove q16 true 1 17 ?_;refine zdIndexAddr q16 true 2 18 ?_;refine zdLoad q16 true 3 19 ?_;refine zdMove q16 true 4 20 ?_;refine zdMove q16 true 5 21 ?_;refine zdIndexAddr q16 true 6 22 ?_;refine zdLoad q16 true 7 23 ?_;refine zdBinOp q16 true 8 24 ?_;refine aAny_done (by kernel_rfl) ?_;refine k16 _ ?_;refine n15 _ _ (weak_keep [0,1,12,13,24] _) ?_;refine zk ⟨?_⟩;refine v_cond _ rfl ?_ ?_
    ·intro hc2;exfalso;simp at hc2
    ·intro hc2;try simp only [zC,reduceCtorEq] at hc2
     refine zn [0,1,12,13] ⟨?_⟩;refine yV ⟨?_⟩;refine n8 _ (i+1) ?_ ?_ ?_
     ·refine weak_bothS [0,1,12,13] [] ⟨?_⟩;rfl
     ·exact hlt
     ·show _ < _;omega
   ·intro hc1;refine zn [] ⟨?_⟩;refine yR [4] ⟨?_⟩;refine zr ⟨?_⟩;exact ret_pure rfl rfl (.inl rfl)
end Go.Proofs.YtmhaafinhpopmaaGreatDoor
