/- Runs of short steps. No condition. -/
import Derived.Test.YtmbbjhopngejaaaGreatDoorUmG
set_option linter.unusedSimpArgs false
set_option linter.unusedVariables false
set_option linter.defProp false
namespace Go.Proofs.YtmbbjhopngejaaaGreatDoor
open Go Go.Vm
abbrev TI:=Int×Int×Bool×List ByteArray
abbrev TA:=ByteArray×Int×Int×Int×Int
abbrev TW:=Int×List Int
abbrev TS:=Int×Int×Int
abbrev rQa:TA→V:=fun t=>V.agg [V.str t.1,V.int .i64 t.2.1,V.int .i64 t.2.2.1,V.int .i64 t.2.2.2.1,V.int .i64 t.2.2.2.2]
abbrev rQb:TI→V:=fun t=>V.agg [V.int .i64 t.1,V.int .i64 t.2.1,V.bool t.2.2.1,V.sl (t.2.2.2.map V.str)]
abbrev rQc:TW→V:=fun t=>V.agg [V.int .i64 t.1,V.sl (t.2.map (V.int .i64))]
abbrev rQd:TS→V:=fun t=>V.agg [V.int .i64 t.1,V.int .i64 t.2.1,V.int .i64 t.2.2]
abbrev rQe:Int×Int×Int×Int×Int×Int×List Int→V:=fun t=>V.agg [V.int .i64 t.1,V.int .i64 t.2.1,V.int .i64 t.2.2.1,V.int .i64 t.2.2.2.1,V.int .i64 t.2.2.2.2.1,V.int .i64 t.2.2.2.2.2.1,V.sl (t.2.2.2.2.2.2.map (V.int .i64))]
abbrev cQ (code:List Int) (a s:Int):Blk:=.box (.agg [.sl (code.map (V.int .u8)),.int .i64 a,.int .u64 s]) .shal
abbrev fQ {α:Type} (f:α→V) (l:List α):Blk:=.arr (l.map f) (b2h l.length)
abbrev aQ {α:Type} (f:α→V) (l:List α):Blk:=.arr (l.map f) .flat
abbrev eQ:Blk:=.arr [] .flat
abbrev bQ (a b c:Nat):Blk:=.box (.agg [.ref a,.ref b,.ref c]) .mix
abbrev sQ {α:Type} (f:α→V) (l:List α):V:=.sl (l.map f)
abbrev kQ (f:List (TA)) (i:List (TI)) (w:List (TW)):V:=.agg [.sl (f.map rQa),.sl (i.map rQb),.sl (w.map rQc)]
abbrev tQ (n:Int) (s:List (TS)):V:=.agg [.int .i64 n,.sl (s.map rQd)]
theorem zcn {P:Program} {f:FuncId} {fn:Func} {c:Code} {args:List V} {O:List Blk} {r:V} {O':List Blk} (rs:List ResultVar) (L:b4u) {N:Nat} (hf:P.funcs[f]? =some fn) (hN:fn.ntmps=N) {B:Prop} (b:Ho B) (hname:(fn.name == "runtime.NumGoroutine")=false:=by rfl) (hb:fn.body=some c:=by rfl) (hts:fn.results=rs.toArray:=by rfl) (hn:Nat.ble args.length N=true:=by rfl)
    (e:Ho B→∀Q:AEx→St→Prop,(∀s,(c9b P s rs fun vs vw=>b57 O.length {s with vw:=vw} (b6r vs) r O')→Q .normal s)→(∀s,(c9b P s rs fun vs vw=>b57 O.length {s with vw:=vw} (b6r vs) r O')→Q .ret s)→awp P L O.length c Q ⟨b59 0 args,O,false,N,0⟩:=by intro b;simp only [b59,Nat.reduceAdd];exact b.h):Con P f args O r O':=by
  subst hN;exact f9h rs L hf hname hb hts (ql7 hn) (e b)
theorem zcx {P:Program} {f:FuncId} {fn:Func} {c:Code} {args:List V} {O:List Blk} {R:V→List Blk→Prop} (rs:List ResultVar) (L:b4u) {N:Nat} (hf:P.funcs[f]? =some fn) (hN:fn.ntmps=N) {B:Prop} (b:Ho B) (hname:(fn.name == "runtime.NumGoroutine")=false:=by rfl) (hb:fn.body=some c:=by rfl) (hts:fn.results=rs.toArray:=by rfl) (hn:Nat.ble args.length N=true:=by rfl)
    (e:Ho B→∀Q:AEx→St→Prop,(∀s,(c9b P s rs fun vs vw=>∃r O',R r O'∧b57 O.length {s with vw:=vw} (b6r vs) r O')→Q .normal s)→(∀s,(c9b P s rs fun vs vw=>∃r O',R r O'∧b57 O.length {s with vw:=vw} (b6r vs) r O')→Q .ret s)→awp P L O.length c Q ⟨b59 0 args,O,false,N,0⟩:=by intro b;simp only [b59,Nat.reduceAdd];exact b.h):b74 P f args O R:=by
  subst hN;exact f8c rs L hf hname hb hts (ql7 hn) (e b)
theorem fq2 {A0 A1:Prop} (a0:A0) (a1:A1):Fc (A0∧A1):=⟨⟨a0,a1⟩⟩
theorem fq3 {A0 A1 A2:Prop} (a0:A0) (a1:A1) (a2:A2):Fc (A0∧A1∧A2):=⟨⟨a0,a1,a2⟩⟩
theorem fq4 {A0 A1 A2 A3:Prop} (a0:A0) (a1:A1) (a2:A2) (a3:A3):Fc (A0∧A1∧A2∧A3):=⟨⟨a0,a1,a2,a3⟩⟩
theorem fq5 {A0 A1 A2 A3 A4:Prop} (a0:A0) (a1:A1) (a2:A2) (a3:A3) (a4:A4):Fc (A0∧A1∧A2∧A3∧A4):=⟨⟨a0,a1,a2,a3,a4⟩⟩
theorem fq6 {A0 A1 A2 A3 A4 A5:Prop} (a0:A0) (a1:A1) (a2:A2) (a3:A3) (a4:A4) (a5:A5):Fc (A0∧A1∧A2∧A3∧A4∧A5):=⟨⟨a0,a1,a2,a3,a4,a5⟩⟩
theorem fq7 {A0 A1 A2 A3 A4 A5 A6:Prop} (a0:A0) (a1:A1) (a2:A2) (a3:A3) (a4:A4) (a5:A5) (a6:A6):Fc (A0∧A1∧A2∧A3∧A4∧A5∧A6):=⟨⟨a0,a1,a2,a3,a4,a5,a6⟩⟩
theorem fq8 {A0 A1 A2 A3 A4 A5 A6 A7:Prop} (a0:A0) (a1:A1) (a2:A2) (a3:A3) (a4:A4) (a5:A5) (a6:A6) (a7:A7):Fc (A0∧A1∧A2∧A3∧A4∧A5∧A6∧A7):=⟨⟨a0,a1,a2,a3,a4,a5,a6,a7⟩⟩
theorem fq9 {A0 A1 A2 A3 A4 A5 A6 A7 A8:Prop} (a0:A0) (a1:A1) (a2:A2) (a3:A3) (a4:A4) (a5:A5) (a6:A6) (a7:A7) (a8:A8):Fc (A0∧A1∧A2∧A3∧A4∧A5∧A6∧A7∧A8):=⟨⟨a0,a1,a2,a3,a4,a5,a6,a7,a8⟩⟩
theorem f8h {A0 A1 A2 A3 A4 A5 A6 A7 A8 A9:Prop} (a0:A0) (a1:A1) (a2:A2) (a3:A3) (a4:A4) (a5:A5) (a6:A6) (a7:A7) (a8:A8) (a9:A9):Fc (A0∧A1∧A2∧A3∧A4∧A5∧A6∧A7∧A8∧A9):=⟨⟨a0,a1,a2,a3,a4,a5,a6,a7,a8,a9⟩⟩
theorem f99 {A0 A1 A2 A3 A4 A5 A6 A7 A8 A9 A10:Prop} (a0:A0) (a1:A1) (a2:A2) (a3:A3) (a4:A4) (a5:A5) (a6:A6) (a7:A7) (a8:A8) (a9:A9) (a10:A10):Fc (A0∧A1∧A2∧A3∧A4∧A5∧A6∧A7∧A8∧A9∧A10):=⟨⟨a0,a1,a2,a3,a4,a5,a6,a7,a8,a9,a10⟩⟩
theorem f9g {A0 A1 A2 A3 A4 A5 A6 A7 A8 A9 A10 A11:Prop} (a0:A0) (a1:A1) (a2:A2) (a3:A3) (a4:A4) (a5:A5) (a6:A6) (a7:A7) (a8:A8) (a9:A9) (a10:A10) (a11:A11):Fc (A0∧A1∧A2∧A3∧A4∧A5∧A6∧A7∧A8∧A9∧A10∧A11):=⟨⟨a0,a1,a2,a3,a4,a5,a6,a7,a8,a9,a10,a11⟩⟩
theorem tq2 {A0 A1:Prop} (a0:A0) (a1:A1):Tys (A0∧A1):=⟨⟨a0,a1⟩⟩
theorem tq3 {A0 A1 A2:Prop} (a0:A0) (a1:A1) (a2:A2):Tys (A0∧A1∧A2):=⟨⟨a0,a1,a2⟩⟩
theorem tq4 {A0 A1 A2 A3:Prop} (a0:A0) (a1:A1) (a2:A2) (a3:A3):Tys (A0∧A1∧A2∧A3):=⟨⟨a0,a1,a2,a3⟩⟩
theorem tq5 {A0 A1 A2 A3 A4:Prop} (a0:A0) (a1:A1) (a2:A2) (a3:A3) (a4:A4):Tys (A0∧A1∧A2∧A3∧A4):=⟨⟨a0,a1,a2,a3,a4⟩⟩
theorem tq6 {A0 A1 A2 A3 A4 A5:Prop} (a0:A0) (a1:A1) (a2:A2) (a3:A3) (a4:A4) (a5:A5):Tys (A0∧A1∧A2∧A3∧A4∧A5):=⟨⟨a0,a1,a2,a3,a4,a5⟩⟩
theorem tq7 {A0 A1 A2 A3 A4 A5 A6:Prop} (a0:A0) (a1:A1) (a2:A2) (a3:A3) (a4:A4) (a5:A5) (a6:A6):Tys (A0∧A1∧A2∧A3∧A4∧A5∧A6):=⟨⟨a0,a1,a2,a3,a4,a5,a6⟩⟩
theorem tq8 {A0 A1 A2 A3 A4 A5 A6 A7:Prop} (a0:A0) (a1:A1) (a2:A2) (a3:A3) (a4:A4) (a5:A5) (a6:A6) (a7:A7):Tys (A0∧A1∧A2∧A3∧A4∧A5∧A6∧A7):=⟨⟨a0,a1,a2,a3,a4,a5,a6,a7⟩⟩
theorem tq9 {A0 A1 A2 A3 A4 A5 A6 A7 A8:Prop} (a0:A0) (a1:A1) (a2:A2) (a3:A3) (a4:A4) (a5:A5) (a6:A6) (a7:A7) (a8:A8):Tys (A0∧A1∧A2∧A3∧A4∧A5∧A6∧A7∧A8):=⟨⟨a0,a1,a2,a3,a4,a5,a6,a7,a8⟩⟩
theorem f93 {A0 A1 A2 A3 A4 A5 A6 A7 A8 A9:Prop} (a0:A0) (a1:A1) (a2:A2) (a3:A3) (a4:A4) (a5:A5) (a6:A6) (a7:A7) (a8:A8) (a9:A9):Tys (A0∧A1∧A2∧A3∧A4∧A5∧A6∧A7∧A8∧A9):=⟨⟨a0,a1,a2,a3,a4,a5,a6,a7,a8,a9⟩⟩
theorem f82 {A0 A1 A2 A3 A4 A5 A6 A7 A8 A9 A10:Prop} (a0:A0) (a1:A1) (a2:A2) (a3:A3) (a4:A4) (a5:A5) (a6:A6) (a7:A7) (a8:A8) (a9:A9) (a10:A10):Tys (A0∧A1∧A2∧A3∧A4∧A5∧A6∧A7∧A8∧A9∧A10):=⟨⟨a0,a1,a2,a3,a4,a5,a6,a7,a8,a9,a10⟩⟩
theorem f72 {A0 A1 A2 A3 A4 A5 A6 A7 A8 A9 A10 A11:Prop} (a0:A0) (a1:A1) (a2:A2) (a3:A3) (a4:A4) (a5:A5) (a6:A6) (a7:A7) (a8:A8) (a9:A9) (a10:A10) (a11:A11):Tys (A0∧A1∧A2∧A3∧A4∧A5∧A6∧A7∧A8∧A9∧A10∧A11):=⟨⟨a0,a1,a2,a3,a4,a5,a6,a7,a8,a9,a10,a11⟩⟩
theorem tyk {T:TyG} {dl:List Nat} (h:f1y T dl:=by
  intro O O2 g g2 hk hg;repeat' first
    | exact id
    | exact fun e=>(hg _ (by decide)).trans e
    | exact fun ⟨n,b⟩=>⟨n,hk _ _ n b⟩
    | refine Exists.imp fun _=> ?_
    | refine And.imp ?_ ?_):f1y T dl:=h
theorem f15 {l:List TyG} {ds:List (List Nat)} (h:c9u l ds:=by
  repeat' first
    | exact trivial
    | refine ⟨?_,?_⟩
    | exact f7s
    | exact tyk):c9u l ds:=h
theorem zq1 {A B:Prop} (b:Ho B) (e:Ho B→A:=by intro b;refine zr ⟨?_⟩;refine zCl ⟨?_⟩;exact b.h):A:=e b
theorem zq2 {A B:Prop} (b:Ho B) (e:Ho B→A:=by intro b;refine zk ⟨?_⟩;refine zr ⟨?_⟩;exact b.h):A:=e b
theorem zq3 {A B:Prop} (b:Ho B) (e:Ho B→A:=by intro b;refine c5l ⟨?_⟩;refine b15 ⟨?_⟩;exact b.h):A:=e b
theorem zq4 {A B:Prop} (b:Ho B) (e:Ho B→A:=by intro b;refine c7g ⟨?_⟩;refine f6x ⟨?_⟩;exact b.h):A:=e b
theorem zq5 {A B:Prop} (b:Ho B) (e:Ho B→A:=by intro b;refine b15 ⟨?_⟩;refine b15 ⟨?_⟩;exact b.h):A:=e b
theorem zq6 {A B:Prop} (b:Ho B) (e:Ho B→A:=by intro b;refine zk ⟨?_⟩;refine zq1 ⟨?_⟩;exact b.h):A:=e b
theorem zq7 {A B:Prop} (b:Ho B) (e:Ho B→A:=by intro b;refine c3c ⟨?_⟩;refine c3c ⟨?_⟩;exact b.h):A:=e b
theorem zq8 {A B:Prop} (b:Ho B) (e:Ho B→A:=by intro b;refine d7q ⟨?_⟩;refine b7a ⟨?_⟩;exact b.h):A:=e b
theorem zq9 {A B:Prop} (b:Ho B) (e:Ho B→A:=by intro b;refine zq3 ⟨?_⟩;refine zq4 ⟨?_⟩;exact b.h):A:=e b
theorem d7a {A B:Prop} (b:Ho B) (e:Ho B→A:=by intro b;refine b15 ⟨?_⟩;refine b4q ⟨?_⟩;exact b.h):A:=e b
theorem f9y {A B:Prop} (b:Ho B) (e:Ho B→A:=by intro b;refine zq3 ⟨?_⟩;refine b82 ⟨?_⟩;exact b.h):A:=e b
theorem f0q {A B:Prop} (b:Ho B) (e:Ho B→A:=by intro b;refine b15 ⟨?_⟩;refine zq7 ⟨?_⟩;exact b.h):A:=e b
theorem f0s {A B:Prop} (b:Ho B) (e:Ho B→A:=by intro b;refine b5w ⟨?_⟩;refine f4b ⟨?_⟩;exact b.h):A:=e b
theorem f8g {A B:Prop} (b:Ho B) (e:Ho B→A:=by intro b;refine b15 ⟨?_⟩;refine b82 ⟨?_⟩;exact b.h):A:=e b
theorem f5t {A B:Prop} (b:Ho B) (e:Ho B→A:=by intro b;refine d3r ⟨?_⟩;refine c5l ⟨?_⟩;exact b.h):A:=e b
theorem g0i {A B:Prop} (b:Ho B) (e:Ho B→A:=by intro b;refine zq8 ⟨?_⟩;refine b7a ⟨?_⟩;exact b.h):A:=e b
theorem f6v {A B:Prop} (b:Ho B) (e:Ho B→A:=by intro b;refine b15 ⟨?_⟩;refine f9n ⟨?_⟩;exact b.h):A:=e b
theorem f6u {A B:Prop} (b:Ho B) (e:Ho B→A:=by intro b;refine zEl ⟨?_⟩;refine b2l ⟨?_⟩;exact b.h):A:=e b
theorem f6r {A B:Prop} (b:Ho B) (e:Ho B→A:=by intro b;refine d7q ⟨?_⟩;refine g0i ⟨?_⟩;exact b.h):A:=e b
theorem f98 {A B:Prop} (b:Ho B) (e:Ho B→A:=by intro b;refine f4l ⟨?_⟩;refine f8g ⟨?_⟩;exact b.h):A:=e b
theorem g0e {A B:Prop} (b:Ho B) (e:Ho B→A:=by intro b;refine f98 ⟨?_⟩;refine c2q ⟨?_⟩;exact b.h):A:=e b
theorem f70 {A B:Prop} (b:Ho B) (e:Ho B→A:=by intro b;refine g0e ⟨?_⟩;refine f9y ⟨?_⟩;exact b.h):A:=e b
theorem g0k {A B:Prop} (b:Ho B) (e:Ho B→A:=by intro b;refine f9y ⟨?_⟩;refine b82 ⟨?_⟩;exact b.h):A:=e b
theorem g0d {A B:Prop} (b:Ho B) (e:Ho B→A:=by intro b;refine g0k ⟨?_⟩;refine c7r ⟨?_⟩;exact b.h):A:=e b
theorem g0g {A B:Prop} (b:Ho B) (e:Ho B→A:=by intro b;refine g0d ⟨?_⟩;refine zq4 ⟨?_⟩;exact b.h):A:=e b
theorem f7u {A B:Prop} (b:Ho B) (e:Ho B→A:=by intro b;refine d3r ⟨?_⟩;refine g0g ⟨?_⟩;exact b.h):A:=e b
theorem f7y {A B:Prop} (b:Ho B) (e:Ho B→A:=by intro b;refine zPs ⟨?_⟩;refine zPs ⟨?_⟩;exact b.h):A:=e b
theorem f7z {A B:Prop} (b:Ho B) (e:Ho B→A:=by intro b;refine b78 ⟨?_⟩;refine f4b ⟨?_⟩;exact b.h):A:=e b
theorem f7w {A B:Prop} (b:Ho B) (e:Ho B→A:=by intro b;refine b4q ⟨?_⟩;refine f21 ⟨?_⟩;exact b.h):A:=e b
end Go.Proofs.YtmbbjhopngejaaaGreatDoor
