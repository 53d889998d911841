/- What functions compute. No condition. -/
import Derived.Test.YtmhaafinhpopmaaGreatDoorX13
set_option linter.unusedSimpArgs false
set_option linter.unusedVariables false
set_option linter.defProp false
namespace Go.Proofs.YtmhaafinhpopmaaGreatDoor
open Go Go.Vm
set_option maxHeartbeats 8000000
def busyA (x:TA):Bool:=decide (1≤x.2.2.2.2) && decide (x.2.2.2.2≤3)
def realNeed (l:List Int):Bool:=need4 l && !l.all (fun x:Int=>inR x 0 0)
def wantP (ins:List TI) (ws:List TW) (i:Nat):Bool:=match ws[i]? with
  | none=>true
  | some w=>decide (0≤openF ins w.1) && realNeed w.2 && (decide (i=0) || match ws[i - 1]? with | some y=>decide (y.1 < w.1) | none=>true)
def inP (n:Int) (fl:List TA) (x:TI):Bool:=hasB n x.2.1 && x.2.2.2.all fun s=>decide (0≤findA fl s)
def fleetP (ins:List TI) (a:TA):Bool:= !(busyA a != decide (0≤commF ins a.1))
def ctlH (n:Int) (ss:List TS) (fl:List TA) (ins:List TI) (ws:List TW):Bool:=dsB n ss fl && incsB ins && !decide (8 < (ws.length:Int))
def ctlB (n:Int) (ss:List TS) (fl:List TA) (ins:List TI) (ws:List TW):Bool:=ctlH n ss fl ins ws && ins.all (inP n fl) && fl.all (fleetP ins) && (List.range ws.length).all (wantP ins ws)
theorem ctl_h {n:Int} {ss:List TS} {fl:List TA} {ins:List TI} {ws:List TW} (h:ctlH n ss fl ins ws=false):ctlB n ss fl ins ws=false:=by rw [ctlB,h];rfl
theorem ctl_i {n:Int} {ss:List TS} {fl:List TA} {ins:List TI} {ws:List TW} (h:ins.all (inP n fl)=false):ctlB n ss fl ins ws=false:=by rw [ctlB,h];simp
theorem ctl_f {n:Int} {ss:List TS} {fl:List TA} {ins:List TI} {ws:List TW} (h:fl.all (fleetP ins)=false):ctlB n ss fl ins ws=false:=by rw [ctlB,h];simp
theorem ctl_w {n:Int} {ss:List TS} {fl:List TA} {ins:List TI} {ws:List TW} {i:Nat} (hi:i < ws.length) (h:wantP ins ws i=false):ctlB n ss fl ins ws=false:=by
  have:(List.range ws.length).all (wantP ins ws)=false:=by
    rw [List.all_eq_false];exact ⟨i,List.mem_range.2 hi,by rw [h];simp⟩
  rw [ctlB,this];simp
theorem ctl_yes {n:Int} {ss:List TS} {fl:List TA} {ins:List TI} {ws:List TW} {i:Nat} (h1:ctlH n ss fl ins ws=true) (h2:ins.all (inP n fl)=true) (h3:fl.all (fleetP ins)=true) (hi:ws.length≤i) (h4:∀j,j < i→wantP ins ws j=true):ctlB n ss fl ins ws=true:=by
  have:(List.range ws.length).all (wantP ins ws)=true:=by
    rw [qls];intro j hj;exact h4 j (ql0 (List.mem_range.1 hj) hi)
  rw [ctlB,h1,h2,h3,this];rfl
theorem wantP_zero {ins:List TI} {ws:List TW} {w:TW} (h:ws[0]? =some w):wantP ins ws 0=(decide (0≤openF ins w.1) && realNeed w.2):=by
  rw [wantP,h];simp
theorem wantP_succ {ins:List TI} {ws:List TW} {w y:TW} {i:Nat} (h0:0 < i) (hy:ws[i - 1]? =some y) (h:ws[i]? =some w):wantP ins ws i=(decide (0≤openF ins w.1) && realNeed w.2 && decide (y.1 < w.1)):=by
  rw [wantP,h];simp only [hy,decide_eq_false (show ¬i=0 by omega),Bool.false_or]
theorem ctlh_facts {n:Int} {ss:List TS} {fl:List TA} {ins:List TI} {ws:List TW} (h:ctlH n ss fl ins ws=true):DsFacts n ss fl∧(∀x∈ins,0≤x.2.1):=by
  simp only [ctlH,Bool.and_eq_true] at h;refine ⟨ds_facts h.1.1,fun x hx=> ?_⟩;obtain ⟨i,hi,rfl⟩:=List.getElem_of_mem hx;have h2:=h.1.2;simp only [incsB,Bool.and_eq_true,List.all_eq_true,List.mem_range] at h2;have h3:=h2.1 i hi;rw [incP,qla hi] at h3;simp only [Bool.and_eq_true,incOK,decide_eq_true_eq] at h3;omega
theorem max_zero {x:Int} {l:List Int} (h:need4 (x::l)=true):decide (mostL l x=0)=(x::l).all (fun x:Int=>inR x 0 0):=by
  obtain ⟨_,hb⟩:=need4_facts h;have key:∀(l:List Int) (a:Int),0≤a→(∀y∈l,0≤y)→decide (mostL l a=0)=(decide (a=0) && l.all (fun x:Int=>inR x 0 0)):=by
    intro l
    induction l with
    | nil=>intro a _ _;simp [mostL]
    | cons y l ih=>
      intro a ha hl;have hy:=hl y (qlg ..);have hs:mostL (y::l) a=mostL l (if y > a then y else a):=rfl;rw [hs,ih _ (by split<;>omega) fun z hz=>hl z (qli _ hz),List.all_cons]
      have e:decide ((if y > a then y else a)=0)=(decide (a=0) && inR y 0 0):=by
        rw [inR]
        by_cases h1:y > a
        · rw [if_pos h1,decide_eq_false (show ¬y=0 by omega),decide_eq_false (show ¬y≤0 by omega)];simp
        · rw [if_neg h1]
          by_cases h2:a=0
          · rw [decide_eq_true h2,decide_eq_true (show 0≤y by omega),decide_eq_true (show y≤0 by omega)];rfl
          · rw [decide_eq_false h2];rfl
      rw [e,Bool.and_assoc]
  rw [key l x (hb x (qlg ..)).1 fun y hy=>(hb y (qli _ hy)).1,List.all_cons]
  congr 1
  have:=(hb x (qlg ..)).1;rw [inR,decide_eq_true this,Bool.true_and];exact decide_eq_decide.2 (by omega)
theorem isBusy_con (x0:ByteArray) (x1:Int) (x2:Int) (x3:Int) (x4:Int):Con Tryz.prog 142 [.agg [V.str x0,V.int .i64 x1,V.int .i64 x2,V.int .i64 x3,V.int .i64 x4]] [] (.bool (busyA (x0,x1,x2,x3,x4))) []:=by
 refine v_con [.tmp 2] [] Tryz.func142 rfl rfl rfl (by simp [Tryz.ntmps142]) ?_;intro Q0 n0 r0;simp only [Tryz.ntmps142,envFrom,Nat.reduceAdd];have T:=Tys.mk (ai Ty.t3 (ai Ty.t4 (ai Ty.t9 Ty.t156)));have F:=Fc.mk True.intro;refine yR [1] ⟨?_⟩;refine yRc [2] (inside_con _ _ _) ⟨?_⟩;refine zr ⟨?_⟩;exact ret_pure rfl rfl (.inl rfl)
theorem roBusy_con (n:Int):Con Tryz.prog 123 [.int .i64 n] [] (.bool (decide (1≤n) && decide (n≤3))) []:=by
 refine v_con [.tmp 2] [] Tryz.func123 rfl rfl rfl (by simp [Tryz.ntmps123]) ?_;intro Q0 n0 r0;simp only [Tryz.ntmps123,envFrom,Nat.reduceAdd];have T:=Tys.mk (ai Ty.t3 Ty.t4);have F:=Fc.mk True.intro;refine yR [0] ⟨?_⟩;refine yRc [2] (l1In_con _ _ _) ⟨?_⟩;refine zr ⟨?_⟩;exact ret_pure rfl (by first | rfl | simp) (.inl rfl)
theorem roNeed_con (l:List Int) (hl:l.length≤1048576):Con Tryz.prog 126 [.sl (l.map (V.int .i64))] [] (.bool (realNeed l)) []:=by
 refine v_con [.tmp 2] [] Tryz.func126 rfl rfl rfl (by simp [Tryz.ntmps126]) ?_;intro Q0 n0 r0;simp only [Tryz.ntmps126,envFrom,Nat.reduceAdd];have T:=Tys.mk (ai Ty.t3 (ai Ty.t4 Ty.t35));have F:=Fc.mk True.intro;refine yR [0] ⟨?_⟩;refine yRcg [2] (tbNeed_con l hl) (l1All_con l 0 0 hl) ⟨?_⟩;refine zr ⟨?_⟩;exact ret_pure rfl rfl (.inl rfl)
end Go.Proofs.YtmhaafinhpopmaaGreatDoor
