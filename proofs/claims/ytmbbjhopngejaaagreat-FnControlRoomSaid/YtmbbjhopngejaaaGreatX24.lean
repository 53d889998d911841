/- What functions compute. No condition. -/
import Derived.Test.YtmbbjhopngejaaaGreatX23
set_option linter.all false
namespace Go.Proofs.YtmbbjhopngejaaaGreat
open Go Go.Vm
set_option maxHeartbeats 8000000
set_option maxRecDepth 8000 in
theorem d39 (code:List Int) (a s:Int) (l:List TA) (hl:l.length≤1048576) (hsz:∀x∈l,x.1.size≤9) (hcode:∀x∈code,0≤x∧x≤255) (hcl:code.length≤9223372036854775807) (ha:0≤a∧a < 14000000000):b76 Tryz.prog 72 [.ptr 0 0 0,sQ rQa l] [cQ code a s] (fun r O'=>∃(v:ByteArray) (a' s':Int),(v.size≤12)∧(a≤a'∧a'≤a+(10+2 * (l.length:Int)))∧r=.str v∧O'=[cQ code a' s']):=by
 apply zcx [.tmp 4] [(75,[0,1]),(70,[0]),(73,[0]),(127,[0,1]),(80,[0])] Tryz.func72 Tryz.ntmps72;intro _ _ _;have T:=g5u Y3 Y4 Y5 Y9 Y22 Y28 Y48 Y60 Y61 Y63 Y98;have F:=Fc.mk True.intro;apply yR [0,1];apply b1l [0,1,5];intro _ k2;apply (zq2);apply zxl (d1n code a s l hl hsz hcode hcl (by omega));rintro _ _ ⟨v10,a10,s10,h10,k10,rfl,rfl⟩;apply (g0g);apply k2 _;apply (zk);apply b0e;intros;apply yR [0,5,11,12,13];apply b0g;intros;apply b05 (fun p=>⟨[(0,.ptr 0 0 0),(5,.str v10),(11,sQ rQa l),(12,.int .i64 l.length),(13,.int .i64 (Nat.cast p.1))],[cQ code p.2.1 p.2.2],false,46,0⟩) (fun p=>p.1≤l.length∧a10≤p.2.1∧p.2.1≤a10+2 * (p.1:Int)) (fun p=>l.length - p.1) ((0,a10,s10):Nat×Int×Int)
 ·refine b6c [0,5,11,12,13] [0] (by decide) (by simp) ?_ ?_ ?_
  ·simp [b0r,b0k,b0i,b0f,V.only,V.onlyL,idx]<;>(first | rfl | decide)
  ·simp [Blk.kindIs,b02,b1m]
  simp only [aQ,fQ,b0r,b0k,b0i,b0f,b0n,Nat.reduceEqDiff,reduceIte,St.comp,List.map_cons,List.map_nil,V.ren,V.renL,idx,List.getD_cons_zero,List.getD_cons_succ,Nat.reduceBEq,cond_true,cond_false,Option.map_some,Option.getD_some,Nat.reduceAdd,Nat.beq_eq_true_eq];all_goals rfl
 ·exact ⟨qle _,by simp⟩
 ·rintro ⟨i,a2,s2⟩ hok6 Q6 n6 e6 r6;obtain ⟨hi1,ha2⟩:=hok6;simp only [] at hi1 ha2⊢;apply yR [0,5,11,12,13,14];apply b0e;intros;apply b0c _ rfl
  ·intro hc0;have hs1:(⟨#[32]⟩:ByteArray).size=1:=rfl;have hlt:i < l.length:=by omega
   obtain ⟨⟨x0,x1,x2,x3,x4⟩,hx⟩:∃x:TA,l[i]? =some x:=⟨l[i]'(by omega),qla (by omega)⟩;have hz0:x0.size≤9:=hsz _ (qlb hx);apply zn [0,5,11,12,13];apply b0e;intros;apply b0g;intros;have F:=Fc.mk (gdm hx);apply yR [0,5,7,11,12,13];apply b1l [0,5,7,11,12,13,30];intro _ k13;apply (g4b);apply (zU);apply (g0e);apply (c0e);apply zgc (c2e x4);apply (zq5);apply zgx (b7p code a2 s2 (4) hcode hcl (by omega)) (⟨_,true,a2,s2,trivial,by omega,rfl,rfl⟩);rintro _ _ ⟨v28,a28,s28,h28,k28,rfl,rfl⟩;apply (zEg);apply (f1j);apply k13 _;apply (zk);apply b0c _ rfl
   ·intro hc1;have hst:x4=1∨x4=2∨x4=3:=by
     omega
    have hl4:([V.str (⟨#[]⟩:ByteArray),V.str (⟨#[50]⟩:ByteArray),V.str (⟨#[97,116]⟩:ByteArray),V.str (⟨#[52]⟩:ByteArray)]:List V).length=4:=rfl;obtain ⟨tx,htx,hzt⟩:∃tx,([V.str (⟨#[]⟩:ByteArray),V.str (⟨#[50]⟩:ByteArray),V.str (⟨#[97,116]⟩:ByteArray),V.str (⟨#[52]⟩:ByteArray)]:List V).getD x4.toNat .any=.str tx∧tx.size≤2:=by
     rcases hst with e | e | e<;>subst e<;>exact ⟨_,rfl,by decide⟩
    have F:=fq3 (gdm hx) hl4 htx;apply yR [4];apply (zr);refine b1g ?_;exact ⟨_,_,_,by simp only [ByteArray.size_append];omega,by omega,rfl,rfl⟩
   ·intro hc1;apply zn [0,5,11,12,13];apply (yV);apply n6 _ (i+1,a28,s28)
    ·refine b6c [0,5,11,12,13] [0] (by decide) (by simp) ?_ ?_ ?_
     ·simp [b0r,b0k,b0i,b0f,V.only,V.onlyL,idx]<;>(first | rfl | decide)
     ·simp [Blk.kindIs,b02,b1m]
     simp only [aQ,fQ,b0r,b0k,b0i,b0f,b0n,Nat.reduceEqDiff,reduceIte,St.comp,List.map_cons,List.map_nil,V.ren,V.renL,idx,List.getD_cons_zero,List.getD_cons_succ,Nat.reduceBEq,cond_true,cond_false,Option.map_some,Option.getD_some,Nat.reduceAdd,Nat.beq_eq_true_eq];all_goals rfl
    ·exact ⟨by show i+1≤l.length;omega,by show a10≤a28∧a28≤a10+2 * ((i+1:Nat):Int);omega⟩
    ·show _ < _;show l.length - (i+1) < l.length - i;omega
  ·intro hc0;have hs1:((⟨#[32]⟩:ByteArray)).size=1:=rfl;apply zn [0,5];apply b1l [4];intro _ k17;have F:=Fc.mk hs1;apply (zU);apply (b46);apply (zq7);apply zxt (f4k code a2 s2 [(⟨#[48]⟩:ByteArray),(⟨#[50]⟩:ByteArray),(⟨#[51]⟩:ByteArray),(⟨#[52]⟩:ByteArray),(⟨#[53]⟩:ByteArray),(⟨#[97,116]⟩:ByteArray),(⟨#[49]⟩:ByteArray),(⟨#[54]⟩:ByteArray),(⟨#[48,50]⟩:ByteArray),(⟨#[120]⟩:ByteArray),.empty] (by simp) hcode hcl (by omega));rintro _ _ ⟨v44,a44,s44,h44,k44,rfl,rfl⟩;have hz44:v44.size≤2:=by
    simp only [List.mem_cons,List.not_mem_nil,or_false] at h44;rcases h44 with e | e | e | e | e | e | e | e | e | e | e<;>(rw [e];decide)
   apply (zEt);apply (b46);apply (b2h);apply k17 _;apply (zq1);refine b1g ?_;exact ⟨_,_,_,by simp only [ByteArray.size_append];omega,by omega,rfl,rfl⟩
end Go.Proofs.YtmbbjhopngejaaaGreat
