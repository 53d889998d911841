/- Runs of short steps. No condition. -/
import Derived.Test.YtmbbjhopngejaaaGreatUmG
set_option linter.all false
open Go.Vm.V renaming int → Za
namespace Go.Proofs.YtmbbjhopngejaaaGreat
open Go Go.Vm
abbrev TI:=Int×Int×Bool×List ByteArray
abbrev TA:=ByteArray×Int×Int×Int×Int
abbrev TW:=Int×List Int
abbrev TS:=Int×Int×Int
abbrev rQa:TA→V:=fun t=>V.agg [V.str t.1,Za .i64 t.2.1,Za .i64 t.2.2.1,Za .i64 t.2.2.2.1,Za .i64 t.2.2.2.2]
abbrev rQb:TI→V:=fun t=>V.agg [Za .i64 t.1,Za .i64 t.2.1,V.bool t.2.2.1,V.sl (t.2.2.2.map V.str)]
abbrev rQc:TW→V:=fun t=>V.agg [Za .i64 t.1,V.sl (t.2.map (Za .i64))]
abbrev rQd:TS→V:=fun t=>V.agg [Za .i64 t.1,Za .i64 t.2.1,Za .i64 t.2.2]
abbrev rQe:TI→V:=fun t=>V.agg [Za .i64 t.1,Za .i64 t.2.1,V.bool t.2.2.1,slN (t.2.2.2.map V.str)]
abbrev rQf:Int×Int×Int×Int×Int×Int×List Int→V:=fun t=>V.agg [Za .i64 t.1,Za .i64 t.2.1,Za .i64 t.2.2.1,Za .i64 t.2.2.2.1,Za .i64 t.2.2.2.2.1,Za .i64 t.2.2.2.2.2.1,V.sl (t.2.2.2.2.2.2.map (Za .i64))]
abbrev cQ (code:List Int) (a s:Int):Blk:=.box (.agg [.sl (code.map (Za .u8)),.int .i64 a,.int .u64 s]) .shal
abbrev fQ {α:Type} (f:α→V) (l:List α):Blk:=.arr (l.map f) (b1w l.length)
abbrev aQ {α:Type} (f:α→V) (l:List α):Blk:=.arr (l.map f) .flat
abbrev eQ:Blk:=.arr [] .flat
abbrev bQ (a b c:Nat):Blk:=.box (.agg [.ref a,.ref b,.ref c]) .mix
abbrev sQ {α:Type} (f:α→V) (l:List α):V:=.sl (l.map f)
abbrev kQ (f:List (TA)) (i:List (TI)) (w:List (TW)):V:=.agg [.sl (f.map rQa),.sl (i.map rQb),.sl (w.map rQc)]
abbrev tQ (n:Int) (s:List (TS)):V:=.agg [.int .i64 n,.sl (s.map rQd)]
section
variable {P:Program} {f:FuncId} {fn:Func} {c:Code} {args:List V} {O:List Blk}
theorem zcn {r:V} {O':List Blk} (rs:List ResultVar) (L:c4f) {N:Nat} (hf:P.funcs[f]? =some fn) (hN:fn.ntmps=N) {B:Prop} (hname:(fn.name == "runtime.NumGoroutine")=false:=by rfl) (hb:fn.body=some c:=by rfl) (hts:fn.results=rs.toArray:=by rfl) (hn:Nat.ble args.length N=true:=by rfl)
    (e:Ho B→∀Q:AEx→St→Prop,(∀s,(d0r P s rs fun vs vw=>b6b O.length {s with vw:=vw} (b6n vs) r O')→Q .normal s)→(∀s,(d0r P s rs fun vs vw=>b6b O.length {s with vw:=vw} (b6n vs) r O')→Q .ret s)→awp P L O.length c Q ⟨b5s 0 args,O,false,N,0⟩:=by intro b;simp only [b5s,Nat.reduceAdd];exact b.h) (b:B):Con P f args O r O':=by
  subst hN;exact g1u rs L hf hname hb hts (qmm hn) (e ⟨b⟩)
theorem zcx {R:V→List Blk→Prop} (rs:List ResultVar) (L:c4f) {N:Nat} (hf:P.funcs[f]? =some fn) (hN:fn.ntmps=N) {B:Prop} (hname:(fn.name == "runtime.NumGoroutine")=false:=by rfl) (hb:fn.body=some c:=by rfl) (hts:fn.results=rs.toArray:=by rfl) (hn:Nat.ble args.length N=true:=by rfl)
    (e:Ho B→∀Q:AEx→St→Prop,(∀s,(d0r P s rs fun vs vw=>∃r O',R r O'∧b6b O.length {s with vw:=vw} (b6n vs) r O')→Q .normal s)→(∀s,(d0r P s rs fun vs vw=>∃r O',R r O'∧b6b O.length {s with vw:=vw} (b6n vs) r O')→Q .ret s)→awp P L O.length c Q ⟨b5s 0 args,O,false,N,0⟩:=by intro b;simp only [b5s,Nat.reduceAdd];exact b.h) (b:B):b76 P f args O R:=by
  subst hN;exact g1d rs L hf hname hb hts (qmm hn) (e ⟨b⟩)
end
theorem fqa {p q:Prop} (x:Fc p) (y:Fc q):Fc (p∧q):=⟨⟨x.1,y.1⟩⟩
theorem g17 {A0 A1 A2 A3 A4 A5 A6 A7 A8 A9:Prop} (a0:A0) (a1:A1) (a2:A2) (a3:A3) (a4:A4) (a5:A5) (a6:A6) (a7:A7) (a8:A8) (a9:A9):Fc (A0∧A1∧A2∧A3∧A4∧A5∧A6∧A7∧A8∧A9):=⟨⟨a0,a1,a2,a3,a4,a5,a6,a7,a8,a9⟩⟩
theorem g0a {A0 A1 A2 A3 A4 A5 A6 A7 A8 A9 A10:Prop} (a0:A0) (a1:A1) (a2:A2) (a3:A3) (a4:A4) (a5:A5) (a6:A6) (a7:A7) (a8:A8) (a9:A9) (a10:A10):Fc (A0∧A1∧A2∧A3∧A4∧A5∧A6∧A7∧A8∧A9∧A10):=⟨⟨a0,a1,a2,a3,a4,a5,a6,a7,a8,a9,a10⟩⟩
theorem b9p {A0 A1 A2 A3 A4 A5 A6 A7 A8 A9 A10 A11:Prop} (a0:A0) (a1:A1) (a2:A2) (a3:A3) (a4:A4) (a5:A5) (a6:A6) (a7:A7) (a8:A8) (a9:A9) (a10:A10) (a11:A11):Fc (A0∧A1∧A2∧A3∧A4∧A5∧A6∧A7∧A8∧A9∧A10∧A11):=⟨⟨a0,a1,a2,a3,a4,a5,a6,a7,a8,a9,a10,a11⟩⟩
theorem fq2 {A0 A1:Prop} (a0:A0) (a1:A1):Fc (A0∧A1):=⟨⟨a0,a1⟩⟩
theorem fq3 {A0 A1 A2:Prop} (a0:A0) (a1:A1) (a2:A2):Fc (A0∧A1∧A2):=⟨⟨a0,a1,a2⟩⟩
theorem fq4 {A0 A1 A2 A3:Prop} (a0:A0) (a1:A1) (a2:A2) (a3:A3):Fc (A0∧A1∧A2∧A3):=⟨⟨a0,a1,a2,a3⟩⟩
theorem fq5 {A0 A1 A2 A3 A4:Prop} (a0:A0) (a1:A1) (a2:A2) (a3:A3) (a4:A4):Fc (A0∧A1∧A2∧A3∧A4):=⟨⟨a0,a1,a2,a3,a4⟩⟩
theorem fq6 {A0 A1 A2 A3 A4 A5:Prop} (a0:A0) (a1:A1) (a2:A2) (a3:A3) (a4:A4) (a5:A5):Fc (A0∧A1∧A2∧A3∧A4∧A5):=⟨⟨a0,a1,a2,a3,a4,a5⟩⟩
theorem fq7 {A0 A1 A2 A3 A4 A5 A6:Prop} (a0:A0) (a1:A1) (a2:A2) (a3:A3) (a4:A4) (a5:A5) (a6:A6):Fc (A0∧A1∧A2∧A3∧A4∧A5∧A6):=⟨⟨a0,a1,a2,a3,a4,a5,a6⟩⟩
theorem fq8 {A0 A1 A2 A3 A4 A5 A6 A7:Prop} (a0:A0) (a1:A1) (a2:A2) (a3:A3) (a4:A4) (a5:A5) (a6:A6) (a7:A7):Fc (A0∧A1∧A2∧A3∧A4∧A5∧A6∧A7):=⟨⟨a0,a1,a2,a3,a4,a5,a6,a7⟩⟩
theorem fq9 {A0 A1 A2 A3 A4 A5 A6 A7 A8:Prop} (a0:A0) (a1:A1) (a2:A2) (a3:A3) (a4:A4) (a5:A5) (a6:A6) (a7:A7) (a8:A8):Fc (A0∧A1∧A2∧A3∧A4∧A5∧A6∧A7∧A8):=⟨⟨a0,a1,a2,a3,a4,a5,a6,a7,a8⟩⟩
theorem tqa {p q:Prop} (x:Tys p) (y:Tys q):Tys (p∧q):=⟨⟨x.1,y.1⟩⟩
theorem g1m {A0 A1 A2 A3 A4 A5 A6 A7 A8 A9:Prop} (a0:A0) (a1:A1) (a2:A2) (a3:A3) (a4:A4) (a5:A5) (a6:A6) (a7:A7) (a8:A8) (a9:A9):Tys (A0∧A1∧A2∧A3∧A4∧A5∧A6∧A7∧A8∧A9):=⟨⟨a0,a1,a2,a3,a4,a5,a6,a7,a8,a9⟩⟩
theorem g5u {A0 A1 A2 A3 A4 A5 A6 A7 A8 A9 A10:Prop} (a0:A0) (a1:A1) (a2:A2) (a3:A3) (a4:A4) (a5:A5) (a6:A6) (a7:A7) (a8:A8) (a9:A9) (a10:A10):Tys (A0∧A1∧A2∧A3∧A4∧A5∧A6∧A7∧A8∧A9∧A10):=⟨⟨a0,a1,a2,a3,a4,a5,a6,a7,a8,a9,a10⟩⟩
theorem c2r {A0 A1 A2 A3 A4 A5 A6 A7 A8 A9 A10 A11:Prop} (a0:A0) (a1:A1) (a2:A2) (a3:A3) (a4:A4) (a5:A5) (a6:A6) (a7:A7) (a8:A8) (a9:A9) (a10:A10) (a11:A11):Tys (A0∧A1∧A2∧A3∧A4∧A5∧A6∧A7∧A8∧A9∧A10∧A11):=⟨⟨a0,a1,a2,a3,a4,a5,a6,a7,a8,a9,a10,a11⟩⟩
theorem tq2 {A0 A1:Prop} (a0:A0) (a1:A1):Tys (A0∧A1):=⟨⟨a0,a1⟩⟩
theorem tq3 {A0 A1 A2:Prop} (a0:A0) (a1:A1) (a2:A2):Tys (A0∧A1∧A2):=⟨⟨a0,a1,a2⟩⟩
theorem tq4 {A0 A1 A2 A3:Prop} (a0:A0) (a1:A1) (a2:A2) (a3:A3):Tys (A0∧A1∧A2∧A3):=⟨⟨a0,a1,a2,a3⟩⟩
theorem tq5 {A0 A1 A2 A3 A4:Prop} (a0:A0) (a1:A1) (a2:A2) (a3:A3) (a4:A4):Tys (A0∧A1∧A2∧A3∧A4):=⟨⟨a0,a1,a2,a3,a4⟩⟩
theorem tq6 {A0 A1 A2 A3 A4 A5:Prop} (a0:A0) (a1:A1) (a2:A2) (a3:A3) (a4:A4) (a5:A5):Tys (A0∧A1∧A2∧A3∧A4∧A5):=⟨⟨a0,a1,a2,a3,a4,a5⟩⟩
theorem tq7 {A0 A1 A2 A3 A4 A5 A6:Prop} (a0:A0) (a1:A1) (a2:A2) (a3:A3) (a4:A4) (a5:A5) (a6:A6):Tys (A0∧A1∧A2∧A3∧A4∧A5∧A6):=⟨⟨a0,a1,a2,a3,a4,a5,a6⟩⟩
theorem tq8 {A0 A1 A2 A3 A4 A5 A6 A7:Prop} (a0:A0) (a1:A1) (a2:A2) (a3:A3) (a4:A4) (a5:A5) (a6:A6) (a7:A7):Tys (A0∧A1∧A2∧A3∧A4∧A5∧A6∧A7):=⟨⟨a0,a1,a2,a3,a4,a5,a6,a7⟩⟩
theorem tq9 {A0 A1 A2 A3 A4 A5 A6 A7 A8:Prop} (a0:A0) (a1:A1) (a2:A2) (a3:A3) (a4:A4) (a5:A5) (a6:A6) (a7:A7) (a8:A8):Tys (A0∧A1∧A2∧A3∧A4∧A5∧A6∧A7∧A8):=⟨⟨a0,a1,a2,a3,a4,a5,a6,a7,a8⟩⟩
theorem tyk {T:TyG} {dl:List Nat} (h:f2k T dl:=by
  intro _ _ _ _ hk hg;repeat' first
    | exact id
    | exact fun e=>(hg _ (by decide)).trans e
    | exact fun ⟨n,b⟩=>⟨n,hk _ _ n b⟩
    | refine Exists.imp fun _=> ?_
    | refine And.imp ?_ ?_):f2k T dl:=h
theorem g4k {l:List TyG} {ds:List (List Nat)} (h:d00 l ds:=by
  repeat' first
    | exact trivial
    | refine ⟨?_,?_⟩
    | exact f9y
    | exact tyk):d00 l ds:=h
theorem zq1 {A B:Prop} (e:Ho B→A:=by intro b;apply (zk);apply (zr);exact b.h) (b:B):A:=e ⟨b⟩
theorem zq2 {A B:Prop} (e:Ho B→A:=by intro b;apply (zU);apply (zU);exact b.h) (b:B):A:=e ⟨b⟩
theorem zq3 {A B:Prop} (e:Ho B→A:=by intro b;apply (zr);apply (zCl);exact b.h) (b:B):A:=e ⟨b⟩
theorem zq4 {A B:Prop} (e:Ho B→A:=by intro b;apply (zU);apply (zgU);exact b.h) (b:B):A:=e ⟨b⟩
theorem zq5 {A B:Prop} (e:Ho B→A:=by intro b;apply (c74);apply (zq4);exact b.h) (b:B):A:=e ⟨b⟩
theorem zq6 {A B:Prop} (e:Ho B→A:=by intro b;apply (zq5);apply (c0e);exact b.h) (b:B):A:=e ⟨b⟩
theorem zq7 {A B:Prop} (e:Ho B→A:=by intro b;apply (zU);apply (b2c);exact b.h) (b:B):A:=e ⟨b⟩
theorem zq8 {A B:Prop} (e:Ho B→A:=by intro b;apply (zq2);apply (zU);exact b.h) (b:B):A:=e ⟨b⟩
theorem zq9 {A B:Prop} (e:Ho B→A:=by intro b;apply (zq1);apply (zCl);exact b.h) (b:B):A:=e ⟨b⟩
theorem g4j {A B:Prop} (e:Ho B→A:=by intro b;apply (zgU);apply (zq5);exact b.h) (b:B):A:=e ⟨b⟩
theorem f1j {A B:Prop} (e:Ho B→A:=by intro b;apply (zgU);apply (c74);exact b.h) (b:B):A:=e ⟨b⟩
theorem g4b {A B:Prop} (e:Ho B→A:=by intro b;apply (zU);apply (d5m);exact b.h) (b:B):A:=e ⟨b⟩
theorem g5x {A B:Prop} (e:Ho B→A:=by intro b;apply (d5x);apply (b55);exact b.h) (b:B):A:=e ⟨b⟩
theorem g4i {A B:Prop} (e:Ho B→A:=by intro b;apply (zgU);apply (c0e);exact b.h) (b:B):A:=e ⟨b⟩
theorem f7s {A B:Prop} (e:Ho B→A:=by intro b;apply (zU);apply (b55);exact b.h) (b:B):A:=e ⟨b⟩
theorem g5s {A B:Prop} (e:Ho B→A:=by intro b;apply (zU);apply (g4m);exact b.h) (b:B):A:=e ⟨b⟩
theorem f9c {A B:Prop} (e:Ho B→A:=by intro b;apply (b8e);apply (d5m);exact b.h) (b:B):A:=e ⟨b⟩
theorem g0m {A B:Prop} (e:Ho B→A:=by intro b;apply (zq2);apply (zq2);exact b.h) (b:B):A:=e ⟨b⟩
theorem g0f {A B:Prop} (e:Ho B→A:=by intro b;apply (g4j);apply (zgU);exact b.h) (b:B):A:=e ⟨b⟩
theorem g0l {A B:Prop} (e:Ho B→A:=by intro b;apply (zEl);apply (zq2);exact b.h) (b:B):A:=e ⟨b⟩
theorem g0g {A B:Prop} (e:Ho B→A:=by intro b;apply (zEl);apply (b2h);exact b.h) (b:B):A:=e ⟨b⟩
theorem g0e {A B:Prop} (e:Ho B→A:=by intro b;apply (d8q);apply (zq4);exact b.h) (b:B):A:=e ⟨b⟩
theorem g0j {A B:Prop} (e:Ho B→A:=by intro b;apply (d5x);apply (g5x);exact b.h) (b:B):A:=e ⟨b⟩
end Go.Proofs.YtmbbjhopngejaaaGreat
