/- What functions compute. No condition. -/
import Derived.Test.YtmbbjhopngejaaaGreatDoorX10
set_option linter.unusedSimpArgs false
set_option linter.unusedVariables false
set_option linter.defProp false
namespace Go.Proofs.YtmbbjhopngejaaaGreatDoor
open Go Go.Vm
set_option maxHeartbeats 8000000
def b7u (x:TA):Bool:=decide (1≤x.2.2.2.2) && decide (x.2.2.2.2≤3)
def b3i (l:List Int):Bool:=c3u l && !l.all (fun x:Int=>inR x 0 0)
def b6l (ins:List TI) (ws:List TW) (i:Nat):Bool:=match ws[i]? with
  | none=>true
  | some w=>decide (0≤b6k ins w.1) && b3i w.2 && (decide (i=0) || match ws[i - 1]? with | some y=>decide (y.1 < w.1) | none=>true)
def inP (n:Int) (fl:List TA) (x:TI):Bool:=c2e n x.2.1 && x.2.2.2.all fun s=>decide (0≤b3o fl s)
def b5h (ins:List TI) (a:TA):Bool:= !(b7u a != decide (0≤b4v ins a.1))
def c9f (n:Int) (ss:List TS) (fl:List TA) (ins:List TI) (ws:List TW):Bool:=dsB n ss fl && b8d ins && !decide (8 < (ws.length:Int))
def b2o (n:Int) (ss:List TS) (fl:List TA) (ins:List TI) (ws:List TW):Bool:=c9f n ss fl ins ws && ins.all (inP n fl) && fl.all (b5h ins) && (List.range ws.length).all (b6l ins ws)
theorem f8e {n:Int} {ss:List TS} {fl:List TA} {ins:List TI} {ws:List TW} (h:c9f n ss fl ins ws=false):b2o n ss fl ins ws=false:=by rw [b2o,h];rfl
theorem f58 {n:Int} {ss:List TS} {fl:List TA} {ins:List TI} {ws:List TW} (h:ins.all (inP n fl)=false):b2o n ss fl ins ws=false:=by rw [b2o,h];simp
theorem f8u {n:Int} {ss:List TS} {fl:List TA} {ins:List TI} {ws:List TW} (h:fl.all (b5h ins)=false):b2o n ss fl ins ws=false:=by rw [b2o,h];simp
theorem f0b {n:Int} {ss:List TS} {fl:List TA} {ins:List TI} {ws:List TW} {i:Nat} (hi:i < ws.length) (h:b6l ins ws i=false):b2o n ss fl ins ws=false:=by
  have:(List.range ws.length).all (b6l ins ws)=false:=by
    rw [List.all_eq_false];exact ⟨i,qmb.2 hi,by rw [h];simp⟩
  rw [b2o,this];simp
theorem f3f {n:Int} {ss:List TS} {fl:List TA} {ins:List TI} {ws:List TW} {i:Nat} (h1:c9f n ss fl ins ws=true) (h2:ins.all (inP n fl)=true) (h3:fl.all (b5h ins)=true) (hi:ws.length≤i) (h4:∀j,j < i→b6l ins ws j=true):b2o n ss fl ins ws=true:=by
  have:(List.range ws.length).all (b6l ins ws)=true:=by
    rw [qlf];intro j hj;exact h4 j (qmi (qmb.1 hj) hi)
  rw [b2o,h1,h2,h3,this];rfl
theorem c4n {ins:List TI} {ws:List TW} {w:TW} (h:ws[0]? =some w):b6l ins ws 0=(decide (0≤b6k ins w.1) && b3i w.2):=by
  rw [b6l,h];simp
theorem c5k {ins:List TI} {ws:List TW} {w y:TW} {i:Nat} (h0:0 < i) (hy:ws[i - 1]? =some y) (h:ws[i]? =some w):b6l ins ws i=(decide (0≤b6k ins w.1) && b3i w.2 && decide (y.1 < w.1)):=by
  rw [b6l,h];simp only [hy,decide_eq_false (show ¬i=0 by omega),Bool.false_or]
theorem d0v {n:Int} {ss:List TS} {fl:List TA} {ins:List TI} {ws:List TW} (h:c9f n ss fl ins ws=true):DsFacts n ss fl∧(∀x∈ins,0≤x.2.1):=by
  simp only [c9f,Bool.and_eq_true] at h;refine ⟨d71 h.1.1,fun x hx=> ?_⟩;obtain ⟨i,hi,rfl⟩:=List.getElem_of_mem hx;have h2:=h.1.2;simp only [b8d,Bool.and_eq_true,List.all_eq_true,List.mem_range] at h2;have h3:=h2.1 i hi;rw [c2b,qla hi] at h3;simp only [Bool.and_eq_true,c04,decide_eq_true_eq] at h3;omega
theorem d8d {x:Int} {l:List Int} (h:c3u (x::l)=true):decide (c17 l x=0)=(x::l).all (fun x:Int=>inR x 0 0):=by
  obtain ⟨_,hb⟩:=b6u h;have key:∀(l:List Int) (a:Int),0≤a→(∀y∈l,0≤y)→decide (c17 l a=0)=(decide (a=0) && l.all (fun x:Int=>inR x 0 0)):=by
    intro l
    induction l with
    | nil=>intro a _ _;simp [c17]
    | cons y l ih=>
      intro a ha hl;have hy:=hl y (qlh ..);have hs:c17 (y::l) a=c17 l (if y > a then y else a):=rfl;rw [hs,ih _ (by split<;>omega) fun z hz=>hl z (qll _ hz),List.all_cons]
      have e:decide ((if y > a then y else a)=0)=(decide (a=0) && inR y 0 0):=by
        rw [inR]
        by_cases h1:y > a
        · rw [if_pos h1,decide_eq_false (show ¬y=0 by omega),decide_eq_false (show ¬y≤0 by omega)];simp
        · rw [if_neg h1]
          by_cases h2:a=0
          · rw [decide_eq_true h2,decide_eq_true (show 0≤y by omega),decide_eq_true (show y≤0 by omega)];rfl
          · rw [decide_eq_false h2];rfl
      rw [e,Bool.and_assoc]
  rw [key l x (hb x (qlh ..)).1 fun y hy=>(hb y (qll _ hy)).1,List.all_cons]
  congr 1
  have:=(hb x (qlh ..)).1;rw [inR,decide_eq_true this,Bool.true_and];exact decide_eq_decide.2 (by omega)
theorem c4t (x0:ByteArray) (x1:Int) (x2:Int) (x3:Int) (x4:Int):Con Tryz.prog 66 [.agg [V.str x0,V.int .i64 x1,V.int .i64 x2,V.int .i64 x3,V.int .i64 x4]] [] (.bool (b7u (x0,x1,x2,x3,x4))) []:=by
 refine zcn [.tmp 2] [] Tryz.func66 Tryz.ntmps66 ⟨?_⟩;intro Q0 n0 r0;have T:=tq4 Ty.t3 Ty.t4 Ty.t9 Ty.t53;have F:=Fc.mk True.intro;refine yR [1] ⟨?_⟩;refine yRc [2] (b4d _ _ _) ⟨?_⟩;refine zr ⟨?_⟩;exact b0g rfl rfl (.inl rfl)
theorem c13 (n:Int):Con Tryz.prog 82 [.int .i64 n] [] (.bool (decide (1≤n) && decide (n≤3))) []:=by
 refine zcn [.tmp 2] [] Tryz.func82 Tryz.ntmps82 ⟨?_⟩;intro Q0 n0 r0;have T:=tq2 Ty.t3 Ty.t4;have F:=Fc.mk True.intro;refine yR [0] ⟨?_⟩;refine yRc [2] (b2w _ _ _) ⟨?_⟩;refine zr ⟨?_⟩;exact b0g rfl (by first | rfl | simp) (.inl rfl)
theorem c9y (l:List Int) (hl:l.length≤1048576):Con Tryz.prog 108 [.sl (l.map (V.int .i64))] [] (.bool (b3i l)) []:=by
 refine zcn [.tmp 2] [] Tryz.func108 Tryz.ntmps108 ⟨?_⟩;intro Q0 n0 r0;have T:=tq3 Ty.t3 Ty.t4 Ty.t35;have F:=Fc.mk True.intro;refine yR [0] ⟨?_⟩;refine d2w [2] (c9x l hl) (c65 l 0 0 hl) ⟨?_⟩;refine zr ⟨?_⟩;exact b0g rfl rfl (.inl rfl)
end Go.Proofs.YtmbbjhopngejaaaGreatDoor
