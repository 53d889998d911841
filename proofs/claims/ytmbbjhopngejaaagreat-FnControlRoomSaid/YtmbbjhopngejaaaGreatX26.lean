/- What functions compute. No condition. -/
import Derived.Test.YtmbbjhopngejaaaGreatX25
set_option linter.all false
namespace Go.Proofs.YtmbbjhopngejaaaGreat
open Go Go.Vm Tryz
set_option maxHeartbeats 8000000
set_option maxRecDepth 8000 in
theorem b52 (fl:List TA) (ins:List TI) (ws:List TW) (hl:fl.length≤1048576) (hil:ins.length≤1048576) (hin:∀t∈ins,t.2.2.2.length≤1048576) (hwl:ws.length≤1048576) (hwn:∀w∈ws,w.2.length≤1048576):Con prog 8 [kQ fl ins ws,kQ fl ins ws] [] (.bool true) []:=by
 apply zcn [.tmp 4] [] func8 ntmps8;intro _ _ _;have T:=c2r Y3 Y4 Y9 Y28 Y29 Y30 Y32 Y41 Y48 Y81 Y96 Y98;have F:=Fc.mk True.intro;apply yR [2,3];apply b0e;intros;apply d6n [2,3,28] (d0w fl hl) (c4y ins hil hin);apply b2a _ rfl
 ·intro hc0;exfalso;simp at hc0
 ·intro hc0;try simp only [zC,reduceCtorEq] at hc0
  apply zn [2,3];apply b0e;intros;apply yR [2,3,31,32];apply b0g;intros;apply b05 (fun i=>⟨[(2,.ptr 0 0 0),(3,.ptr 1 0 0),(31,.int .i64 ws.length),(32,.int .i64 (Nat.cast i))],[.box (kQ fl ins ws) .shal,.box (kQ fl ins ws) .shal],false,65,0⟩) (fun i=>i≤ws.length) (fun i=>ws.length - i) 0
  ·apply b0d [2,3,31,32] [0,1];rfl
  ·exact qle _
  ·rintro i hok8 Q8 n8 e8 r8;have hi1:i≤ws.length:=hok8;apply yR [2,3,31,32,33];apply b0e;intros;apply b0c _ rfl
   ·intro hc1;have hlt:i < ws.length:=by omega
    obtain ⟨⟨w0,w1⟩,hx⟩:∃x,ws[i]? =some x:=⟨ws[i],qla hlt⟩;have hlx:=hwn _ (qlb hx);have hd0:(w0 == w0)=true:=beq_self_eq_true w0;have hd1:decide (w0=w0)=true:=decide_eq_true rfl;apply zn [2,3,31,32];apply b0e;intros;apply b0g;intros;have F:=fq3 (gdm hx) hd0 hd1;apply yR [2,3,5,31,32];apply b0e;intro _ n15 _ _;apply b1b (by kernel_rfl);intro _ q16 k16;show b13 _ _ _ _ 29 (Array.replicate 29 false) _;refine zdU q16 true 0 35 ?_;refine b00 q16 true 1 36 ?_;refine zdU q16 true 2 37 ?_;refine b0z q16 true 3 38 ?_;refine zdU q16 true 4 39 ?_;refine b00 q16 true 5 40 ?_;refine zdU q16 true 6 41 ?_;refine b00 q16 true 7 42 ?_;refine zdU q16 true 8 43 ?_;refine b0z q16 true 9 44 ?_;refine zdU q16 true 10 45 ?_;refine b00 q16 true 11 46 ?_;refine b2b q16 true 12 47 ?_;refine zdU q16 true 13 48 ?_;refine b1n q16 true 14 49 ?_;refine b66 q16 true 15 50 ?_;refine b1n q16 true 16 51 ?_;refine b0u q16 true 17 52 ?_;refine b1n q16 true 18 53 ?_;refine b66 q16 true 19 54 ?_;refine b1n q16 true 20 55 ?_;refine b66 q16 true 21 56 ?_;refine b1n q16 true 22 57 ?_;refine b0u q16 true 23 58 ?_;refine b1n q16 true 24 59 ?_;refine b66 q16 true 25 60 ?_;first
    |apply d3v 26 (b7n w1 hlx)
    |(apply b2w 26 61 13 false rfl rfl (show 61 < 65 by decide) (by kernel_rfl) rfl;(focus first | rfl | (simp only [zV,b01,Nat.reduceEqDiff,reduceIte];done));simp only [zW,b0j,Nat.reduceEqDiff,reduceIte])
    refine b1n q16 true 27 62 ?_;refine b1s q16 true 28 63 ?_;apply b0b (by kernel_rfl);apply k16 _;apply n15 _ _ (b0a [2,3,31,32,63] _);apply (zk);apply b2a _ rfl
    ·intro hc2;exfalso;simp at hc2
    ·intro hc2;try simp only [zC,reduceCtorEq] at hc2
     apply zn [2,3,31,32];apply (yV);apply n8 _ (i+1)
     ·apply b0d [2,3,31,32] [0,1];rfl
     ·exact hlt
     ·show _ < _;omega
   ·intro hc1;apply zn [];apply yR [4];apply (zr);exact b0h rfl rfl (.inl rfl)
section
variable (code:List Int) (hcode:∀x∈code,0≤x∧x≤255) (hcl:code.length≤9223372036854775807)
include code hcode hcl
theorem c6c:b76 prog 62 [.sl (code.map (V.int .u8))] [] (fun r O'=>∃(n:Int) (l:List TS) (fl:List TA) (ins:List TI) (ws:List TW),(l.length≤302∧CtQ fl ins ws)∧r=.tup [tQ n l,kQ fl ins ws]∧O'=[]):=by
 apply zcx [.cell 2 26,.cell 3 32] [(27,[0])] func62 ntmps62;intro _ _ _;have T:=tqa (c2r Y3 Y4 Y5 Y9 Y22 Y24 Y26 Y28 Y29 Y30 Y32 Y41) (tq8 Y48 Y60 Y61 Y63 Y81 Y96 Y98 b7w);have F:=Fc.mk True.intro;apply yR [0,2,3];apply yR [2,3,4];apply b1l [2,3];intro _ k3;apply (zU);apply zxl (c4c code 0 0 hcode hcl (by omega));rintro _ _ ⟨n9,l9,fl9,ins9,ws9,a9,s9,h9,k9,rfl,rfl⟩;apply (g0l);apply (b55);apply (b55);apply k3 _;apply (zq9);try apply (zCl)
 refine b1g ?_;exact ⟨n9,l9,fl9,ins9,ws9,h9,rfl,rfl⟩
theorem c51:b76 prog 20 [.sl (code.map (V.int .u8))] [] (fun r O'=>∃(n:Int) (l:List TS) (fl:List TA) (ins:List TI) (ws:List TW),(l.length≤302∧CtQ fl ins ws)∧r=.tup [tQ n l,kQ fl ins ws]∧O'=[]):=by
 apply zcx [.cell 2 26,.cell 3 32] [] func20 ntmps20;intro _ _ _;have T:=tqa (c2r Y3 Y4 Y5 Y9 Y22 Y24 Y26 Y28 Y29 Y30 Y32 Y41) (tq5 Y48 Y81 Y96 Y98 b7w);have F:=Fc.mk True.intro;apply yR [0,2,3];apply b1l [2,3];intro _ k2;apply (zU);apply zxn (c6c code hcode hcl);rintro _ _ ⟨n,l,fl,ins,ws,hq,rfl,rfl⟩;apply (zEn);apply (zq2);apply (b55);apply (b55);apply k2 _;apply (zq9);try apply (zCl)
 refine b1g ?_;exact ⟨n,l,fl,ins,ws,hq,rfl,rfl⟩
end
end Go.Proofs.YtmbbjhopngejaaaGreat
