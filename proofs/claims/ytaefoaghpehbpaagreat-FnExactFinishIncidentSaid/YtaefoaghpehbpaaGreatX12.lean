/- What functions compute. No condition. -/
import Derived.Test.YtaefoaghpehbpaaGreatUz
import Derived.Test.YtaefoaghpehbpaaGreatUty
import Derived.Test.YtaefoaghpehbpaaGreatUmG
import Derived.Test.YtaefoaghpehbpaaGreatX11
import Derived.Test.YtaefoaghpehbpaaGreatX5
import Derived.Test.YtaefoaghpehbpaaGreatX1
import Derived.Test.YtaefoaghpehbpaaGreatX8
import Derived.Test.YtaefoaghpehbpaaGreatX6
import Derived.Test.YtaefoaghpehbpaaGreatX3
set_option linter.unusedSimpArgs false
set_option linter.unusedVariables false
set_option linter.defProp false
namespace Go.Proofs.YtaefoaghpehbpaaGreat
open Go Go.Vm
def nextI (s:Int):List Int:=if s=0 then [1,5] else if s=1 then [2,0] else if s=2 then [3,4] else if s=3 then [4] else if s=4 then [0,1,5] else [0]
def nextX (s:Int):List Int:=if s=0 then [1,5] else if s=1 then [0,2] else if s=2 then [3,4] else if s=3 then [4] else if s=4 then [0,1,5] else [0]
theorem next_len (s:Int):(nextI s).length≤3∧(nextX s).length≤3:=by
  unfold nextI nextX
  repeat' split
  all_goals simp
theorem next_mem (s t:Int):t∈nextX s↔t∈nextI s:=by
  unfold nextI nextX
  repeat' split
  all_goals simp [or_comm]
def chgB (fl:List (ByteArray×Int×Int×Int×Int)) (s:ByteArray) (t:Int):Bool:=decide (0≤findA fl s) && (decide (0≤t) && decide (t≤5)) && decide (t∈nextI (stA fl s))
def chgF (fl:List (ByteArray×Int×Int×Int×Int)) (s:ByteArray) (t:Int):List (ByteArray×Int×Int×Int×Int):=match fl[(findA fl s).toNat]? with
  | some a=>fl.set (findA fl s).toNat (a.1,a.2.1,a.2.2.1,a.2.2.2.1,t)
  | none=>fl
theorem chgF_at {fl:List (ByteArray×Int×Int×Int×Int)} {s:ByteArray} {t:Int} {k:Nat} {a:(ByteArray×Int×Int×Int×Int)} (h1:findA fl s=(k:Int)) (h2:fl[k]? =some a):chgF fl s t=fl.set k (a.1,a.2.1,a.2.2.1,a.2.2.2.1,t):=by
  rw [chgF,h1,Int.toNat_natCast,h2]
theorem chgF_len (fl:List (ByteArray×Int×Int×Int×Int)) (s:ByteArray) (t:Int):(chgF fl s t).length=fl.length:=by
  rw [chgF];split
  · rw [List.length_set]
  · rfl
theorem chg_cases (fl:List (ByteArray×Int×Int×Int×Int)) (s:ByteArray) (t:Int):(findA fl s=-1∧chgB fl s t=false)∨(∃(k:Nat) (a:(ByteArray×Int×Int×Int×Int)),findA fl s=(k:Int)∧fl[k]? =some a∧(decide (0≤t) && decide (t≤5))=false∧chgB fl s t=false)∨
    ∃(k:Nat) (a:(ByteArray×Int×Int×Int×Int)),findA fl s=(k:Int)∧fl[k]? =some a∧(decide (0≤t) && decide (t≤5))=true∧chgB fl s t=decide (t∈nextI a.2.2.2.2):=by
  rcases findA_cases fl s with h | ⟨k,a,h1,h2,_⟩
  · exact .inl ⟨h,by rw [chgB,h];rfl⟩
  · right
    cases q:(decide (0≤t) && decide (t≤5)) with
    | false=>exact .inl ⟨k,a,h1,h2,rfl,by rw [chgB,q];simp⟩
    | true=>exact .inr ⟨k,a,h1,h2,rfl,by rw [chgB,q,stA_at h1 h2,h1,decide_eq_true (show (0:Int)≤(k:Int) by omega)];rfl⟩
def repB (fl:List (ByteArray×Int×Int×Int×Int)) (s:ByteArray) (t:Int):Bool:=chgB fl s t && !decide (t=1)
def repI (ins:List (Int×Int×Bool×List ByteArray)) (s:ByteArray) (t:Int):List (Int×Int×Bool×List ByteArray):=if 0≤commF ins s∧¬(1≤t∧t≤3) then (match ins[(commF ins s).toNat]? with
  | some x=>ins.set (commF ins s).toNat (x.1,x.2.1,x.2.2.1,x.2.2.2.filter fun y=> !decide (y=s))
  | none=>ins) else ins
theorem repI_no {ins:List (Int×Int×Bool×List ByteArray)} {s:ByteArray} {t:Int} (h:¬(0≤commF ins s∧¬(1≤t∧t≤3))):repI ins s t=ins:=by rw [repI,if_neg h]
theorem repI_at {ins:List (Int×Int×Bool×List ByteArray)} {s:ByteArray} {t:Int} {k:Nat} {x:(Int×Int×Bool×List ByteArray)} (h:¬(1≤t∧t≤3)) (h1:commF ins s=(k:Int)) (h2:ins[k]? =some x):repI ins s t=ins.set k (x.1,x.2.1,x.2.2.1,x.2.2.2.filter fun y=> !decide (y=s)):=by
  rw [repI,if_pos ⟨by omega,h⟩,h1,Int.toNat_natCast,h2]
theorem repI_len (ins:List (Int×Int×Bool×List ByteArray)) (s:ByteArray) (t:Int):(repI ins s t).length=ins.length:=by
  rw [repI]
  split
  · split
    · rw [List.length_set]
    · rfl
  · rfl
theorem repI_all {ins:List (Int×Int×Bool×List ByteArray)} {n:Nat} (s:ByteArray) (t:Int) (h:∀x∈ins,x.2.2.2.length≤n):∀x∈repI ins s t,x.2.2.2.length≤n:=by
  intro x hx
  rw [repI] at hx
  split at hx
  · split at hx
    · rename_i y hy
      rcases List.mem_or_eq_of_mem_set hx with q | q
      · exact h x q
      · subst q
        exact Nat.le_trans (List.length_filter_le ..) (h y (List.mem_of_getElem? hy))
    · exact h x hx
  · exact h x hx
theorem commF_case (ins:List (Int×Int×Bool×List ByteArray)) (s:ByteArray):(commF ins s < 0)∨∃(k:Nat) (x:(Int×Int×Bool×List ByteArray)),ins[k]? =some x∧inS s x.2.2.2=true∧commF ins s=(k:Int):=by
  rcases Int.lt_or_le (commF ins s) 0 with h | h
  · exact .inl h
  · exact .inr (commF_at h)
theorem fillK_pos {n k:Nat} (h:k < n):fillK n=.deep:=by unfold fillK;rw [if_neg (by omega)]
theorem inS_ne {s:ByteArray} {l:List ByteArray} (h:inS s l=true):l≠[]:=by
  intro e;subst e;simp [inS] at h
theorem toArgs_ptrl {s:St} {ls:List Nat} {id i off j:Nat} {cs cs':List V} (h:idx ls id=some j) (h2:toArgs s ls cs=some cs'):toArgs s ls (.ptr id i off::cs)=some (.ptr j i off::cs'):=by
  have e:toArg s ls (.ptr id i off)=some (.ptr j i off):=by cases i<;>simp [toArg,toCell,h]
  rw [toArgs,e,h2]
def rpvB (n:Int) (ss:List (Int×Int×Int)) (fl:List (ByteArray×Int×Int×Int×Int)) (ins:List (Int×Int×Bool×List ByteArray)) (ws:List (Int×List Int)) (s:ByteArray) (t:Int):Bool:=ctlB n ss fl ins ws && repB fl s t
theorem chainFrom_iff {α:Type} {ok:α→Bool} {bf:α→α→Bool} (tr:∀x y z,bf x y=true→bf y z=true→bf x z=true):∀(l:List α) (p:Option α),chainFrom ok bf p l=true↔(∀x∈l,ok x=true)∧(l.Pairwise fun x y=>bf x y=true)∧∀q,p=some q→∀x∈l,bf q x=true
  | [],p=>by simp [chainFrom]
  | x ::l,p=>by
    have ih:=chainFrom_iff (ok:=ok) tr l (some x)
    have h2:chainFrom ok bf p (x::l)=true↔ok x=true∧(∀q,p=some q→bf q x=true)∧chainFrom ok bf (some x) l=true:=by
      cases p with
      | none=>simp [chainFrom]
      | some r=>simp [chainFrom,and_assoc]
    rw [h2,ih,List.pairwise_cons]
    constructor
    · rintro ⟨a,b,c,d,e⟩
      refine ⟨fun y hy=> ?_,⟨fun y hy=>e x rfl y hy,d⟩,fun q hq y hy=> ?_⟩
      · rcases List.mem_cons.1 hy with rfl | hy
        · exact a
        · exact c y hy
      · rcases List.mem_cons.1 hy with rfl | hy
        · exact b q hq
        · exact tr q x y (b q hq) (e x rfl y hy)
    · rintro ⟨a,⟨b,c⟩,d⟩
      exact ⟨a x (List.mem_cons_self ..),fun q hq=>d q hq x (List.mem_cons_self ..),fun y hy=>a y (List.mem_cons_of_mem _ hy),c,fun q hq y hy=>by cases hq;exact b y hy⟩
theorem chain_iff {α:Type} {ok:α→Bool} {bf:α→α→Bool} (tr:∀x y z,bf x y=true→bf y z=true→bf x z=true) (l:List α):chainAt ok bf l 0=true↔(∀x∈l,ok x=true)∧l.Pairwise fun x y=>bf x y=true:=by
  have:=chainFrom_iff (ok:=ok) tr l none
  have e:chainAt ok bf l 0=chainFrom ok bf none l:=by simp [chainAt]
  rw [e,this]
  simp
theorem pair_next {α:Type} {R:α→α→Prop} (tr:∀x y z,R x y→R y z→R x z):∀(l:List α),(∀(i:Nat) (x y:α),l[i]? =some x→l[i+1]? =some y→R x y)→l.Pairwise R
  | [],_=>.nil
  | [x],_=>List.pairwise_singleton ..
  | x::y::l,h=>by
    have ih:=pair_next tr (y::l) fun i a b ha hb=>h (i+1) a b (by simpa using ha) (by simpa using hb)
    refine List.pairwise_cons.2 ⟨fun z hz=> ?_,ih⟩
    have hxy:=h 0 x y rfl rfl
    rcases List.mem_cons.1 hz with rfl | hz
    · exact hxy
    · exact tr _ _ _ hxy ((List.pairwise_cons.1 ih).1 z hz)
theorem pair_get {α:Type} {R:α→α→Prop} {l:List α} (h:l.Pairwise R) {i j:Nat} {x y:α} (hi:l[i]? =some x) (hj:l[j]? =some y) (hij:i < j):R x y:=by
  obtain ⟨h1,rfl⟩:=List.getElem?_eq_some_iff.1 hi
  obtain ⟨h2,rfl⟩:=List.getElem?_eq_some_iff.1 hj
  exact List.pairwise_iff_getElem.1 h i j h1 h2 hij
theorem strB_trans (a b c:ByteArray) (h:strLt a b=true) (k:strLt b c=true):strLt a c=true:=strLt_trans h k
structure IncProp (x:(Int×Int×Bool×List ByteArray)):Prop where
  num:1≤x.1∧x.1≤999
  node:0≤x.2.1∧x.2.1≤13
  len:x.2.2.2.length≤12
  closed:x.2.2.1=true→x.2.2.2=[]
  nm:∀s∈x.2.2.2,nameB s=true
  srt:x.2.2.2.Pairwise fun a b=>strLt a b=true
theorem incOK_iff (x:(Int×Int×Bool×List ByteArray)):incOK x=true↔IncProp x:=by
  simp only [incOK,Bool.and_eq_true,decide_eq_true_eq,Bool.not_eq_true',decide_eq_false_iff_not,chain_iff strB_trans,Bool.and_eq_false_imp]
  constructor
  · rintro ⟨⟨⟨⟨h1,h2⟩,h3⟩,h4⟩,h5,h6⟩
    exact ⟨h1,h2,by omega,fun q=>by have:=h4 q;exact List.length_eq_zero_iff.1 (by omega),h5,h6⟩
  · intro h
    refine ⟨⟨⟨⟨h.num,h.node⟩,by have:=h.len;omega⟩,fun q=> ?_⟩,h.nm,h.srt⟩
    rw [h.closed q];simp
theorem inS_iff (s:ByteArray) (l:List ByteArray):inS s l=true↔s∈l:=by
  simp [inS]
structure IncsProp (l:List (Int×Int×Bool×List ByteArray)):Prop where
  each:∀x∈l,IncProp x
  num:l.Pairwise fun x y=>x.1 < y.1
  dis:l.Pairwise fun x y=>∀s∈y.2.2.2,s ∉ x.2.2.2
  len:l.length≤8
theorem clash_iff (pre:List (Int×Int×Bool×List ByteArray)) (x:(Int×Int×Bool×List ByteArray)):clashB pre x=false↔∀y∈pre,∀s∈x.2.2.2,s ∉ y.2.2.2:=by
  rw [clashB,List.any_eq_false]
  constructor
  · intro h y hy s hs hsy
    have:=h s hs
    rw [Bool.not_eq_true,List.any_eq_false] at this
    exact this y hy ((inS_iff _ _).2 hsy)
  · intro h s hs
    rw [Bool.not_eq_true,List.any_eq_false]
    intro y hy hq
    exact h y hy s hs ((inS_iff _ _).1 hq)
theorem incs_iff (l:List (Int×Int×Bool×List ByteArray)):incsB l=true↔IncsProp l:=by
  rw [incsB,Bool.and_eq_true,List.all_eq_true,decide_eq_true_eq]
  constructor
  · rintro ⟨h,h8⟩
    have hp:∀(i:Nat) (x:(Int×Int×Bool×List ByteArray)),l[i]? =some x→IncProp x∧(∀(j:Nat) (y:(Int×Int×Bool×List ByteArray)),i=j+1→l[j]? =some y→y.1 < x.1)∧∀y∈l.take i,∀s∈x.2.2.2,s ∉ y.2.2.2:=by
      intro i x hx
      have hi:=(List.getElem?_eq_some_iff.1 hx).1
      have:=h i (List.mem_range.2 hi)
      rw [incP,hx] at this
      simp only [Bool.and_eq_true,Bool.not_eq_true'] at this
      refine ⟨(incOK_iff x).1 this.1.1,fun j y hj hy=> ?_,(clash_iff _ _).1 this.2⟩
      subst hj
      have h2:=this.1.2
      rw [decide_eq_false (by omega),Bool.false_or,Nat.add_sub_cancel,hy] at h2
      simpa using h2
    refine ⟨fun x hx=> ?_,pair_next (fun x y z a b=>by omega) l fun i x y hx hy=>(hp (i+1) y hy).2.1 i x rfl hx,?_,by omega⟩
    · obtain ⟨i,hi,rfl⟩:=List.getElem_of_mem hx
      exact (hp i _ (List.getElem?_eq_getElem hi)).1
    · refine List.pairwise_iff_getElem.2 fun i j hi hj hij=> ?_
      refine (hp j _ (List.getElem?_eq_getElem hj)).2.2 _ ?_
      rw [List.mem_iff_getElem]
      exact ⟨i,by rw [List.length_take];omega,by rw [List.getElem_take]⟩
  · intro h
    refine ⟨fun i hi=> ?_,by have:=h.len;omega⟩
    have hi:=List.mem_range.1 hi
    rw [incP,List.getElem?_eq_getElem hi]
    simp only [Bool.and_eq_true,Bool.not_eq_true']
    refine ⟨⟨(incOK_iff _).2 (h.each _ (List.getElem_mem hi)),?_⟩,(clash_iff _ _).2 fun y hy=> ?_⟩
    · rcases Nat.eq_zero_or_pos i with q | q
      · subst q;rfl
      · rw [decide_eq_false (by omega),Bool.false_or,List.getElem?_eq_getElem (show i - 1 < l.length by omega)]
        simp only [decide_eq_true_eq]
        exact List.pairwise_iff_getElem.1 h.num (i - 1) i (by omega) hi (by omega)
    · obtain ⟨j,hj,rfl⟩:=List.mem_iff_getElem.1 hy
      rw [List.length_take] at hj
      rw [List.getElem_take]
      exact List.pairwise_iff_getElem.1 h.dis j i (by omega) hi (by omega)
theorem findA_iff (fl:List (ByteArray×Int×Int×Int×Int)) (s:ByteArray):0≤findA fl s↔∃a∈fl,a.1=s:=by
  constructor
  · intro h
    obtain ⟨k,x,h1,h2,_⟩:=findA_at h
    exact ⟨x,List.mem_of_getElem? h1,h2⟩
  · rintro ⟨a,ha,rfl⟩
    have:=first_any (fun x:(ByteArray×Int×Int×Int×Int)=>decide (x.1=a.1)) fl 0
    have h2:(fl.any fun x:(ByteArray×Int×Int×Int×Int)=>decide (x.1=a.1))=true:=List.any_eq_true.2 ⟨a,ha,by simp⟩
    rw [h2,decide_eq_true_eq] at this
    exact this
theorem commF_iff (ins:List (Int×Int×Bool×List ByteArray)) (s:ByteArray):0≤commF ins s↔∃x∈ins,s∈x.2.2.2:=by
  have:=comm_any ins s
  constructor
  · intro h
    rw [decide_eq_true h] at this
    obtain ⟨x,hx,h2⟩:=List.any_eq_true.1 this.symm
    exact ⟨x,hx,(inS_iff _ _).1 h2⟩
  · rintro ⟨x,hx,hs⟩
    have h2:(ins.any fun y=>inS s y.2.2.2)=true:=List.any_eq_true.2 ⟨x,hx,(inS_iff _ _).2 hs⟩
    rw [h2,decide_eq_true_eq] at this
    exact this
theorem openF_iff (ins:List (Int×Int×Bool×List ByteArray)) (n:Int):0≤openF ins n↔∃x∈ins,x.1=n∧x.2.2.1=false:=by
  have:=first_any (fun x:(Int×Int×Bool×List ByteArray)=>decide (x.1=n) && !x.2.2.1) ins 0
  have e:openF ins n=firstP (fun x:(Int×Int×Bool×List ByteArray)=>decide (x.1=n) && !x.2.2.1) 0 ins:=rfl
  rw [e]
  constructor
  · intro h
    rw [decide_eq_true h] at this
    obtain ⟨x,hx,h2⟩:=List.any_eq_true.1 this.symm
    exact ⟨x,hx,by simpa using h2⟩
  · rintro ⟨x,hx,h1,h2⟩
    have h3:(ins.any fun x:(Int×Int×Bool×List ByteArray)=>decide (x.1=n) && !x.2.2.1)=true:=List.any_eq_true.2 ⟨x,hx,by simp [h1,h2]⟩
    rw [h3,decide_eq_true_eq] at this
    exact this
structure CtlProp (n:Int) (ss:List (Int×Int×Int)) (fl:List (ByteArray×Int×Int×Int×Int)) (ins:List (Int×Int×Bool×List ByteArray)) (ws:List (Int×List Int)):Prop where
  town:townB n ss=true
  ap:∀a∈fl,apOK a=true
  srt:fl.Pairwise fun x y=>strLt x.1 y.1=true
  fl12:fl.length≤12
  has:∀a∈fl,0≤a.2.2.1∧a.2.2.1 < n
  inc:IncsProp ins
  ws8:ws.length≤8
  node:∀x∈ins,0≤x.2.1∧x.2.1 < n
  names:∀x∈ins,∀s∈x.2.2.2,∃a∈fl,a.1=s
  busy:∀a∈fl,(1≤a.2.2.2.2∧a.2.2.2.2≤3)↔∃x∈ins,a.1∈x.2.2.2
  want:∀w∈ws,(∃x∈ins,x.1=w.1∧x.2.2.1=false)∧realNeed w.2=true
  wsrt:ws.Pairwise fun x y=>x.1 < y.1
theorem ctl_iff (n:Int) (ss:List (Int×Int×Int)) (fl:List (ByteArray×Int×Int×Int×Int)) (ins:List (Int×Int×Bool×List ByteArray)) (ws:List (Int×List Int)):ctlB n ss fl ins ws=true↔CtlProp n ss fl ins ws:=by
  have hbz:∀a:(ByteArray×Int×Int×Int×Int),fleetP ins a=true↔((1≤a.2.2.2.2∧a.2.2.2.2≤3)↔∃x∈ins,a.1∈x.2.2.2):=by
    intro a
    rw [fleetP,←commF_iff,busyA]
    by_cases h1:1≤a.2.2.2.2<;>by_cases h2:a.2.2.2.2≤3<;>by_cases h3:0≤commF ins a.1<;>simp [h1,h2,h3]<;>omega
  have hw:(List.range ws.length).all (wantP ins ws)=true↔(∀w∈ws,(∃x∈ins,x.1=w.1∧x.2.2.1=false)∧realNeed w.2=true)∧ws.Pairwise fun x y=>x.1 < y.1:=by
    rw [List.all_eq_true]
    constructor
    · intro h
      have hp:∀(i:Nat) (w:(Int×List Int)),ws[i]? =some w→(0≤openF ins w.1∧realNeed w.2=true)∧∀(j:Nat) (y:(Int×List Int)),i=j+1→ws[j]? =some y→y.1 < w.1:=by
        intro i w hx
        have:=h i (List.mem_range.2 (List.getElem?_eq_some_iff.1 hx).1)
        rw [wantP,hx] at this
        simp only [Bool.and_eq_true,decide_eq_true_eq] at this
        refine ⟨this.1,fun j y hj hy=> ?_⟩
        subst hj
        have h2:=this.2
        rw [decide_eq_false (by omega),Bool.false_or,Nat.add_sub_cancel,hy] at h2
        simpa using h2
      refine ⟨fun w hw=> ?_,pair_next (fun x y z a b=>by omega) ws fun i x y hx hy=>(hp (i+1) y hy).2 i x rfl hx⟩
      obtain ⟨i,hi,rfl⟩:=List.getElem_of_mem hw
      have:=(hp i _ (List.getElem?_eq_getElem hi)).1
      exact ⟨(openF_iff _ _).1 this.1,this.2⟩
    · rintro ⟨h1,h2⟩ i hi
      have hi:=List.mem_range.1 hi
      rw [wantP,List.getElem?_eq_getElem hi]
      simp only [Bool.and_eq_true,decide_eq_true_eq]
      have hw:=h1 _ (List.getElem_mem hi)
      refine ⟨⟨(openF_iff _ _).2 hw.1,hw.2⟩,?_⟩
      rcases Nat.eq_zero_or_pos i with q | q
      · subst q;rfl
      · rw [decide_eq_false (by omega),Bool.false_or,List.getElem?_eq_getElem (show i - 1 < ws.length by omega)]
        simp only [decide_eq_true_eq]
        exact List.pairwise_iff_getElem.1 h2 (i - 1) i (by omega) hi (by omega)
  rw [ctlB,ctlH,dsB,Bool.and_eq_true,Bool.and_eq_true,Bool.and_eq_true,Bool.and_eq_true,Bool.and_eq_true,Bool.and_eq_true,Bool.and_eq_true,incs_iff,hw,List.all_eq_true,List.all_eq_true,List.all_eq_true,fleetB,Bool.and_eq_true,
    chain_iff (bf:=apBf) (fun a b c h k=>strLt_trans (show strLt a.1 b.1=true from h) (show strLt b.1 c.1=true from k)),decide_eq_true_eq,Bool.not_eq_true',decide_eq_false_iff_not]
  constructor
  · rintro ⟨⟨⟨⟨⟨⟨⟨h1,⟨h2,h3⟩,h4⟩,h5⟩,h6⟩,h7⟩,h8⟩,h9⟩,h10,h11⟩
    have hn:=(town_facts h1).1
    refine ⟨h1,h2,h3,by omega,fun a ha=> ?_,h6,by omega,fun x hx=> ?_,fun x hx s hs=> ?_,fun a ha=>(hbz a).1 (h9 a ha),h10,h11⟩
    · have:=h5 a ha
      rw [has_facts hn] at this
      simpa using this
    · have:=h8 x hx
      rw [inP,Bool.and_eq_true,has_facts hn] at this
      simpa using this.1
    · have:=h8 x hx
      rw [inP,Bool.and_eq_true,List.all_eq_true] at this
      exact (findA_iff _ _).1 (by simpa using this.2 s hs)
  · intro h
    have hn:=(town_facts h.town).1
    refine ⟨⟨⟨⟨⟨⟨⟨h.town,⟨h.ap,h.srt⟩,by have:=h.fl12;omega⟩,fun a ha=> ?_⟩,h.inc⟩,by have:=h.ws8;omega⟩,fun x hx=> ?_⟩,fun a ha=>(hbz a).2 (h.busy a ha)⟩,h.want,h.wsrt⟩
    · rw [has_facts hn]
      simpa using h.has a ha
    · rw [inP,Bool.and_eq_true,List.all_eq_true,has_facts hn]
      exact ⟨by simpa using h.node x hx,fun s hs=>by simpa using (findA_iff _ _).2 (h.names x hx s hs)⟩
theorem name_uniq {fl:List (ByteArray×Int×Int×Int×Int)} (hs:fl.Pairwise fun x y=>strLt x.1 y.1=true) {i j:Nat} {a b:(ByteArray×Int×Int×Int×Int)} (hi:fl[i]? =some a) (hj:fl[j]? =some b) (e:a.1=b.1):i=j:=by
  rcases Nat.lt_trichotomy i j with h | h | h
  · have:=pair_get hs hi hj h
    rw [e,strLt_irrefl] at this;cases this
  · exact h
  · have:=pair_get hs hj hi h
    rw [e,strLt_irrefl] at this;cases this
theorem mem_set {α:Type} {l:List α} {k:Nat} {y z:α} (h:z∈l.set k y):z=y∨∃i,i≠k∧l[i]? =some z:=by
  obtain ⟨i,hi,rfl⟩:=List.mem_iff_getElem.1 h
  rw [List.length_set] at hi
  rw [List.getElem_set]
  by_cases e:k=i
  · subst e;left;rw [if_pos rfl]
  · right;rw [if_neg e];exact ⟨i,fun q=>e q.symm,List.getElem?_eq_getElem hi⟩
theorem set_pair {α:Type} {R:α→α→Prop} {l:List α} {k:Nat} {x y:α} (h:l.Pairwise R) (hx:l[k]? =some x) (h1:∀z,R z x→R z y) (h2:∀z,R x z→R y z):(l.set k y).Pairwise R:=by
  refine List.pairwise_iff_getElem.2 fun i j hi hj hij=> ?_
  rw [List.length_set] at hi hj
  have hk:=(List.getElem?_eq_some_iff.1 hx)
  obtain ⟨hkl,hkx⟩:=hk
  have hp:=List.pairwise_iff_getElem.1 h
  rw [List.getElem_set,List.getElem_set]
  by_cases e1:k=i
  · subst e1
    rw [if_pos rfl,if_neg (by omega)]
    exact h2 _ (by have:=hp k j hi hj hij;rwa [hkx] at this)
  · rw [if_neg e1]
    by_cases e2:k=j
    · subst e2
      rw [if_pos rfl]
      exact h1 _ (by have:=hp i k hi hj hij;rwa [hkx] at this)
    · rw [if_neg e2]
      exact hp i j hi hj hij
theorem fl_keep {n:Int} {ss:List (Int×Int×Int)} {fl:List (ByteArray×Int×Int×Int×Int)} {ins:List (Int×Int×Bool×List ByteArray)} {ws:List (Int×List Int)} (h:CtlProp n ss fl ins ws) {k:Nat} {a:(ByteArray×Int×Int×Int×Int)} {nd st:Int} (hk:fl[k]? =some a) (hn:0≤nd∧nd < n) (hs:0≤st∧st≤5) (hb:(1≤st∧st≤3)↔∃x∈ins,a.1∈x.2.2.2) :
    CtlProp n ss (fl.set k (a.1,a.2.1,nd,a.2.2.2.1,st)) ins ws:=by
  have hn14:=(town_facts h.town).1
  have hao:=h.ap a (List.mem_of_getElem? hk)
  refine ⟨h.town,fun b hb2=> ?_,set_pair h.srt hk (fun z q=>q) (fun z q=>q),by rw [List.length_set];exact h.fl12,fun b hb2=> ?_,h.inc,h.ws8,h.node,fun x hx s hs2=> ?_,fun b hb2=> ?_,h.want,h.wsrt⟩
  · rcases mem_set hb2 with e | ⟨i,_,hi⟩
    · subst e
      simp only [apOK,Bool.and_eq_true,decide_eq_true_eq] at hao⊢
      refine ⟨⟨⟨⟨hao.1.1.1.1,hao.1.1.1.2⟩,?_⟩,hao.1.2⟩,hs⟩
      omega
    · exact h.ap b (List.mem_of_getElem? hi)
  · rcases mem_set hb2 with e | ⟨i,_,hi⟩
    · subst e;exact hn
    · exact h.has b (List.mem_of_getElem? hi)
  · obtain ⟨b,hb2,e⟩:=h.names x hx s hs2
    obtain ⟨i,hi,rfl⟩:=List.mem_iff_getElem.1 hb2
    by_cases q:i=k
    · subst q
      refine ⟨_,List.mem_iff_getElem.2 ⟨i,by rw [List.length_set];exact hi,List.getElem_set_self ..⟩,?_⟩
      rw [←e,←(List.getElem?_eq_some_iff.1 hk).2]
    · exact ⟨fl[i],List.mem_iff_getElem.2 ⟨i,by rw [List.length_set];exact hi,List.getElem_set_ne (fun z=>q z.symm) _⟩,e⟩
  · rcases mem_set hb2 with e | ⟨i,_,hi⟩
    · subst e;exact hb
    · exact h.busy b (List.mem_of_getElem? hi)
theorem comm_uniq {ins:List (Int×Int×Bool×List ByteArray)} (hd:ins.Pairwise fun x y=>∀s∈y.2.2.2,s ∉ x.2.2.2) {i j:Nat} {x y:(Int×Int×Bool×List ByteArray)} {s:ByteArray} (hi:ins[i]? =some x) (hj:ins[j]? =some y) (hx:s∈x.2.2.2) (hy:s∈y.2.2.2):i=j:=by
  rcases Nat.lt_trichotomy i j with h | h | h
  · exact absurd hx (pair_get hd hi hj h s hy)
  · exact h
  · exact absurd hy (pair_get hd hj hi h s hx)
theorem arr_keep {n:Int} {ss:List (Int×Int×Int)} {fl:List (ByteArray×Int×Int×Int×Int)} {ins:List (Int×Int×Bool×List ByteArray)} {ws:List (Int×List Int)} {s:ByteArray} (hB:ctlB n ss fl ins ws=true) (hA:arrB fl s=true):ctlB n ss (arrF fl ins s) ins ws=true:=by
  have h:=(ctl_iff ..).1 hB
  rw [arrB,Bool.and_eq_true,decide_eq_true_eq,decide_eq_true_eq] at hA
  obtain ⟨k,a,hk,hks,hkf⟩:=findA_at hA.1
  have hst:=stA_at hkf hk
  have h2:a.2.2.2.2=2:=by rw [←hst];exact hA.2
  have hbz:=(h.busy a (List.mem_of_getElem? hk)).1 (by omega)
  have hcm:0≤commF ins s:=(commF_iff _ _).2 (by rw [←hks];exact hbz)
  obtain ⟨m,x,hm,_,hmf⟩:=commF_at hcm
  rw [arrF_at hkf hk hmf hm]
  exact (ctl_iff ..).2 (fl_keep h hk (h.node x (List.mem_of_getElem? hm)) (by omega) ⟨fun _=>hbz,fun _=>by omega⟩)
theorem rel_inc {x:(Int×Int×Bool×List ByteArray)} {s:ByteArray} (h:IncProp x):IncProp (x.1,x.2.1,x.2.2.1,x.2.2.2.filter fun y=> !decide (y=s)):=by
  refine ⟨h.num,h.node,Nat.le_trans (List.length_filter_le ..) h.len,fun q=> ?_,fun y hy=>h.nm y (List.mem_filter.1 hy).1,h.srt.filter _⟩
  show (x.2.2.2.filter _)=[]
  rw [h.closed q];rfl
theorem mem_rel {s t:ByteArray} {l:List ByteArray}:t∈l.filter (fun y=> !decide (y=s))↔t∈l∧t≠s:=by
  rw [List.mem_filter];simp
theorem rep_keep {n:Int} {ss:List (Int×Int×Int)} {fl:List (ByteArray×Int×Int×Int×Int)} {ins:List (Int×Int×Bool×List ByteArray)} {ws:List (Int×List Int)} {s:ByteArray} {t:Int} (hB:ctlB n ss fl ins ws=true) (hA:repB fl s t=true):ctlB n ss (chgF fl s t) (repI ins s t) ws=true:=by
  have h:=(ctl_iff ..).1 hB
  rw [repB,chgB,Bool.and_eq_true,Bool.and_eq_true,Bool.and_eq_true,Bool.and_eq_true,decide_eq_true_eq,decide_eq_true_eq,decide_eq_true_eq,decide_eq_true_eq,Bool.not_eq_true',decide_eq_false_iff_not] at hA
  obtain ⟨⟨⟨hf,ht⟩,hnx⟩,ht1⟩:=hA
  obtain ⟨k,a,hk,hks,hkf⟩:=findA_at hf
  rw [stA_at hkf hk] at hnx
  have ham:=List.mem_of_getElem? hk
  have hbz:=h.busy a ham
  rw [chgF_at hkf hk]
  have hex:(∃x∈ins,a.1∈x.2.2.2)↔0≤commF ins s:=by rw [commF_iff,hks]
  by_cases hr:0≤commF ins s∧¬(1≤t∧t≤3)
  · -- it is released
    obtain ⟨m,x,hm,hms,hmf⟩:=commF_at hr.1
    have hsx:s∈x.2.2.2:=(inS_iff _ _).1 hms
    rw [repI_at hr.2 hmf hm]
    have hxm:=List.mem_of_getElem? hm
    let x':(Int×Int×Bool×List ByteArray):=(x.1,x.2.1,x.2.2.1,x.2.2.2.filter fun y=> !decide (y=s))
    have hin:∀z∈ins.set m x',z=x'∨∃i,i≠m∧ins[i]? =some z:=fun z hz=>mem_set hz
    have hmem:x'∈ins.set m x':=List.mem_iff_getElem.2 ⟨m,by rw [List.length_set];exact (List.getElem?_eq_some_iff.1 hm).1,List.getElem_set_self ..⟩
    have hold:∀i z,i≠m→ins[i]? =some z→z∈ins.set m x':=fun i z q hi=>List.mem_of_getElem? (by rw [List.getElem?_set_ne (fun e=>q e.symm)];exact hi)
    have hcm:∀y:ByteArray,(∃z∈ins.set m x',y∈z.2.2.2)↔(∃z∈ins,y∈z.2.2.2)∧y≠s:=by
      intro y
      constructor
      · rintro ⟨z,hz,hy⟩
        rcases hin z hz with rfl | ⟨i,hi,hiz⟩
        · obtain ⟨h1,h2⟩:=mem_rel.1 hy
          exact ⟨⟨x,hxm,h1⟩,h2⟩
        · refine ⟨⟨z,List.mem_of_getElem? hiz,hy⟩,fun e=> ?_⟩
          subst e
          exact hi (comm_uniq h.inc.dis hiz hm hy hsx)
      · rintro ⟨⟨z,hz,hy⟩,hne⟩
        obtain ⟨i,hi,rfl⟩:=List.mem_iff_getElem.1 hz
        by_cases q:i=m
        · subst q
          have:ins[i]=x:=(List.getElem?_eq_some_iff.1 hm).2
          rw [this] at hy
          exact ⟨x',hmem,mem_rel.2 ⟨hy,hne⟩⟩
        · exact ⟨_,hold i _ q (List.getElem?_eq_getElem hi),hy⟩
    have hC : CtlProp n ss (fl.set k (a.1,a.2.1,a.2.2.1,a.2.2.2.1,t)) (ins.set m x') ws:=by
      refine ⟨h.town,fun b hb2=> ?_,set_pair h.srt hk (fun z q=>q) (fun z q=>q),by rw [List.length_set];exact h.fl12,fun b hb2=> ?_,⟨fun z hz=> ?_,set_pair h.inc.num hm (fun z q=>q) (fun z q=>q),set_pair h.inc.dis hm (fun z q y hy=>q y (mem_rel.1 hy).1) (fun z q y hy e=>q y hy (mem_rel.1 e).1),by rw [List.length_set];exact h.inc.len⟩,h.ws8,fun z hz=> ?_,fun z hz y hy=> ?_,fun b hb2=> ?_,fun w hw=> ?_,h.wsrt⟩
      · rcases mem_set hb2 with e | ⟨i,_,hi⟩
        · subst e
          have hao:=h.ap a ham
          simp only [apOK,Bool.and_eq_true,decide_eq_true_eq] at hao⊢
          exact ⟨hao.1,ht⟩
        · exact h.ap b (List.mem_of_getElem? hi)
      · rcases mem_set hb2 with e | ⟨i,_,hi⟩
        · subst e;exact h.has a ham
        · exact h.has b (List.mem_of_getElem? hi)
      · rcases hin z hz with rfl | ⟨i,_,hiz⟩
        · exact rel_inc (h.inc.each x hxm)
        · exact h.inc.each z (List.mem_of_getElem? hiz)
      · rcases hin z hz with rfl | ⟨i,_,hiz⟩
        · exact h.node x hxm
        · exact h.node z (List.mem_of_getElem? hiz)
      · obtain ⟨⟨z2,hz2,hy2⟩,_⟩:=(hcm y).1 ⟨z,hz,hy⟩
        obtain ⟨b,hb2,e⟩:=h.names z2 hz2 y hy2
        obtain ⟨i,hi,rfl⟩:=List.mem_iff_getElem.1 hb2
        by_cases q:i=k
        · subst q
          refine ⟨_,List.mem_iff_getElem.2 ⟨i,by rw [List.length_set];exact hi,List.getElem_set_self ..⟩,?_⟩
          rw [←e,←(List.getElem?_eq_some_iff.1 hk).2]
        · exact ⟨fl[i],List.mem_iff_getElem.2 ⟨i,by rw [List.length_set];exact hi,List.getElem_set_ne (fun z=>q z.symm) _⟩,e⟩
      · rw [hcm]
        rcases mem_set hb2 with e | ⟨i,hik,hi⟩
        · subst e
          constructor
          · intro q;exact absurd q hr.2
          · rintro ⟨_,q⟩;exact absurd hks q
        · rw [h.busy b (List.mem_of_getElem? hi)]
          constructor
          · intro q
            refine ⟨q,fun e=>hik ?_⟩
            exact name_uniq h.srt hi hk (by rw [e,hks])
          · exact fun q=>q.1
      · obtain ⟨⟨z,hz,hz1,hz2⟩,hw2⟩:=h.want w hw
        refine ⟨?_,hw2⟩
        obtain ⟨i,hi,rfl⟩:=List.mem_iff_getElem.1 hz
        by_cases q:i=m
        · subst q
          have:ins[i]=x:=(List.getElem?_eq_some_iff.1 hm).2
          rw [this] at hz1 hz2
          exact ⟨x',hmem,hz1,hz2⟩
        · exact ⟨_,hold i _ q (List.getElem?_eq_getElem hi),hz1,hz2⟩
    exact (ctl_iff ..).2 hC
  · rw [repI_no hr]
    refine (ctl_iff ..).2 (fl_keep h hk (h.has a ham) ht ?_)
    rw [hex]
    rw [hex] at hbz
    have hst:=h.ap a ham
    simp only [apOK,Bool.and_eq_true,decide_eq_true_eq] at hst
    have h5:=hst.2
    constructor
    · intro q
      apply hbz.1
      refine Classical.byContradiction fun hnb=> ?_
      have hc:a.2.2.2.2=0∨a.2.2.2.2=4∨a.2.2.2.2=5:=by omega
      rcases hc with e | e | e<;>rw [e] at hnx<;>simp [nextI] at hnx<;>omega
    · intro q
      exact Classical.byContradiction fun hnb=>hr ⟨q,hnb⟩
def finS (t:Int):Int:=if t=1 then 0 else 4
def finA (a:(ByteArray×Int×Int×Int×Int)):(ByteArray×Int×Int×Int×Int):=(a.1,a.2.1,a.2.2.1,a.2.2.2.1,finS a.2.2.2.2)
def finF (fl:List (ByteArray×Int×Int×Int×Int)) (names:List ByteArray):List (ByteArray×Int×Int×Int×Int):=fl.map fun a=>if inS a.1 names=true then finA a else a
theorem finF_len (fl:List (ByteArray×Int×Int×Int×Int)) (names:List ByteArray):(finF fl names).length=fl.length:=List.length_map _
theorem finF_nil (fl:List (ByteArray×Int×Int×Int×Int)):finF fl []=fl:=by
  rw [finF]
  conv=>rhs;rw [←List.map_id fl]
  exact List.map_congr_left fun a _=>by simp [inS]
theorem finF_at {fl:List (ByteArray×Int×Int×Int×Int)} {names:List ByteArray} {k:Nat} {a:(ByteArray×Int×Int×Int×Int)} (hk:fl[k]? =some a) (hn:inS a.1 names=false):(finF fl names)[k]? =some a:=by
  rw [finF,List.getElem?_map,hk,Option.map_some,hn];rfl
theorem finF_step {fl:List (ByteArray×Int×Int×Int×Int)} {names:List ByteArray} {s:ByteArray} {k j:Nat} {a:(ByteArray×Int×Int×Int×Int)} (hd:∀i b,fl[i]? =some b→b.1=s→i=k) (hj:names[j]? =some s) (hk:fl[k]? =some a) (hs:a.1=s):(finF fl (names.take j)).set k (finA a)=finF fl (names.take (j+1)):=by
  apply List.ext_getElem?
  intro i
  have hkl:=(List.getElem?_eq_some_iff.1 hk).1
  by_cases q:k=i
  · subst q
    rw [List.getElem?_set_self (by rw [finF_len];exact hkl),finF,List.getElem?_map,hk,Option.map_some]
    have:inS a.1 (names.take (j+1))=true:=by
      rw [inS,List.any_eq_true]
      exact ⟨s,List.mem_of_getElem? (show (names.take (j+1))[j]? =some s by rw [List.getElem?_take,if_pos (by omega)];exact hj),by simp [hs]⟩
    rw [this,if_pos rfl]
  · rw [List.getElem?_set_ne q,finF,finF,List.getElem?_map,List.getElem?_map]
    cases hb:fl[i]? with
    | none=>rfl
    | some b=>
      rw [Option.map_some,Option.map_some]
      have hbs:b.1≠s:=fun e=>q (hd i b hb e).symm
      have:inS b.1 (names.take (j+1))=inS b.1 (names.take j):=by
        rw [List.take_add_one,hj,Option.toList_some,inS,inS,List.any_append]
        simp [hbs]
      rw [this]
def finE (names:List ByteArray) (a:(ByteArray×Int×Int×Int×Int)):(ByteArray×Int×Int×Int×Int):=if inS a.1 names=true then finA a else a
theorem spF_step {fl:List (ByteArray×Int×Int×Int×Int)} {names:List ByteArray} {j:Nat} {a:(ByteArray×Int×Int×Int×Int)} (h:fl[j]? =some a):((finF fl names).take j++fl.drop j).set j (finE names a)=(finF fl names).take (j+1)++fl.drop (j+1):=by
  have hj:=(List.getElem?_eq_some_iff.1 h).1
  have hf:(finF fl names)[j]? =some (finE names a):=by rw [finF,List.getElem?_map,h];rfl
  have hl:((finF fl names).take j).length=j:=by rw [List.length_take,finF_len];omega
  rw [List.set_append_right _ _ (by omega),hl,Nat.sub_self,List.drop_eq_getElem_cons hj,List.set_cons_zero,List.take_add_one,hf]
  simp
theorem spF_same {fl:List (ByteArray×Int×Int×Int×Int)} {names:List ByteArray} {j:Nat} {a:(ByteArray×Int×Int×Int×Int)} (h:fl[j]? =some a) (hn:inS a.1 names=false):(finF fl names).take j++fl.drop j=(finF fl names).take (j+1)++fl.drop (j+1):=by
  have hj:=(List.getElem?_eq_some_iff.1 h).1
  have hf:(finF fl names)[j]? =some a:=finF_at h hn
  rw [List.drop_eq_getElem_cons hj,List.take_add_one,hf,(List.getElem?_eq_some_iff.1 h).2]
  simp
def finN (ins:List (Int×Int×Bool×List ByteArray)) (m:Int):List ByteArray:=match ins[(openF ins m).toNat]? with
  | some x=>x.2.2.2
  | none=>[]
def finI (ins:List (Int×Int×Bool×List ByteArray)) (m:Int):List (Int×Int×Bool×List ByteArray):=match ins[(openF ins m).toNat]? with
  | some x=>ins.set (openF ins m).toNat (x.1,x.2.1,true,[])
  | none=>ins
def finW (ws:List (Int×List Int)) (m:Int):List (Int×List Int):=ws.filter fun w=> !decide (w.1=m)
def finB (n:Int) (ss:List (Int×Int×Int)) (fl:List (ByteArray×Int×Int×Int×Int)) (ins:List (Int×Int×Bool×List ByteArray)) (ws:List (Int×List Int)) (m:Int):Bool:=ctlB n ss fl ins ws && decide (0≤openF ins m)
theorem fin_at {ins:List (Int×Int×Bool×List ByteArray)} {m:Int} {k:Nat} {x:(Int×Int×Bool×List ByteArray)} (h:openF ins m=(k:Int)) (hx:ins[k]? =some x):finN ins m=x.2.2.2∧finI ins m=ins.set k (x.1,x.2.1,true,[]):=by
  rw [finN,finI,h,Int.toNat_natCast,hx]
  exact ⟨rfl,rfl⟩
theorem open_case (ins:List (Int×Int×Bool×List ByteArray)) (m:Int):openF ins m < 0∨∃(k:Nat) (x:(Int×Int×Bool×List ByteArray)),openF ins m=(k:Int)∧ins[k]? =some x:=by
  rcases Int.lt_or_le (openF ins m) 0 with h | h
  · exact .inl h
  · obtain ⟨k,x,h1,_,h3⟩:=firstP_at (p:=fun x:(Int×Int×Bool×List ByteArray)=>decide (x.1=m) && !x.2.2.1) h
    exact .inr ⟨k,x,h3,h1⟩
theorem finI_len (ins:List (Int×Int×Bool×List ByteArray)) (m:Int):(finI ins m).length=ins.length:=by
  rw [finI];split
  · rw [List.length_set]
  · rfl
theorem finI_all {ins:List (Int×Int×Bool×List ByteArray)} {q:Nat} (m:Int) (h:∀x∈ins,x.2.2.2.length≤q):∀x∈finI ins m,x.2.2.2.length≤q:=by
  intro x hx
  rw [finI] at hx
  split at hx
  · rcases List.mem_or_eq_of_mem_set hx with z | z
    · exact h x z
    · subst z;exact Nat.zero_le _
  · exact h x hx
theorem finW_len (ws:List (Int×List Int)) (m:Int):(finW ws m).length≤ws.length:=List.length_filter_le ..
theorem finW_all {ws:List (Int×List Int)} {q:Nat} (m:Int) (h:∀w∈ws,w.2.length≤q):∀w∈finW ws m,w.2.length≤q:=fun w hw=>h w (List.mem_filter.1 hw).1
def ST2:V:=V.agg [V.any,V.any]
theorem WkL.app:∀{a a' b b':List V},WkL a a'→WkL b b'→WkL (a++b) (a'++b')
  | [],[],_,_,_,h=>h
  | _::_,_::_,_,_,⟨h1,h2⟩,h=>⟨h1,WkL.app h2 h⟩
  | [],_::_,_,_,h,_=>h.elim
  | _::_,[],_,_,h,_=>h.elim
theorem stale_get {α:Type} {f:α→V} {l:List α} {i:Nat} {x:α} (hx:l[i]? =some x):(List.replicate i ST2++(l.drop i).map f)[i]? =some (f x):=by
  rw [List.getElem?_append_right (by simp),List.length_replicate,Nat.sub_self,List.getElem?_map,List.getElem?_drop,Nat.add_zero,hx];rfl
theorem stale_set {α:Type} {f:α→V} {l:List α} {i:Nat} {x:α} (hx:l[i]? =some x) (y:V):(List.replicate i ST2++(l.drop i).map f).set i y=List.replicate i ST2++y::(l.drop (i+1)).map f:=by
  have hl:=(List.getElem?_eq_some_iff.1 hx).1
  rw [List.set_append_right _ _ (by simp),List.length_replicate,Nat.sub_self,List.drop_eq_getElem_cons hl,List.map_cons,List.set_cons_zero]
theorem stale_next {α:Type} {f:α→V} {l:List α} {i:Nat}:List.replicate (i+1) ST2++(l.drop (i+1)).map f=List.replicate i ST2++ST2::(l.drop (i+1)).map f:=by
  rw [List.replicate_succ',List.append_assoc,List.singleton_append]
theorem stale_wk {α:Type} {f:α→V} {l:List α} {i:Nat} {x:α} (hx:l[i]? =some x) (u v:V):WkL (((List.replicate i ST2++(l.drop i).map f).set i (.agg [u,v])).flatMap V.cells) ((List.replicate (i+1) ST2++(l.drop (i+1)).map f).flatMap V.cells):=by
  rw [stale_set hx,stale_next,List.flatMap_append,List.flatMap_append,List.flatMap_cons,List.flatMap_cons]
  refine WkL.app (WkL.refl _) (WkL.app ?_ (WkL.refl _))
  exact ⟨.inr (.inr rfl),.inr (.inr rfl),trivial⟩
theorem stale_len {α:Type} {f:α→V} {l:List α} {i:Nat} {x:α} (hx:l[i]? =some x) (y:V):(List.replicate (i+1) ST2++(l.drop (i+1)).map f).length=((List.replicate i ST2++(l.drop i).map f).set i y).length:=by
  rw [stale_set hx,stale_next];simp
theorem stale_sz {α:Type} {f:α→V} {l:List α} {i:Nat} {x:α} (hx:l[i]? =some x) (u v:V):∀n,(∀z∈(List.replicate i ST2++(l.drop i).map f).set i (.agg [u,v]),z.cells.length=n)→∀z∈List.replicate (i+1) ST2++(l.drop (i+1)).map f,z.cells.length=n:=by
  intro n hn z hz
  rw [stale_set hx] at hn
  have h2:n=2:=(hn (.agg [u,v]) (by simp)).symm
  rw [stale_next,List.mem_append,List.mem_cons] at hz
  rcases hz with h | h | h
  · rw [List.eq_of_mem_replicate h,h2];rfl
  · rw [h,h2];rfl
  · exact hn z (by rw [List.mem_append,List.mem_cons];exact .inr (.inr h))
theorem stale_cells {α:Type} {f:α→V} {l:List α} {i:Nat} {x:α} (hx:l[i]? =some x) (u v:V) (hf:∀z,(f z).cells.length=2):∀z∈(List.replicate i ST2++(l.drop i).map f).set i (.agg [u,v]),z.cells.length=2:=by
  intro z hz
  rw [stale_set hx,List.mem_append,List.mem_cons] at hz
  rcases hz with h | h | h
  · rw [List.eq_of_mem_replicate h];rfl
  · rw [h];rfl
  · obtain ⟨y,_,rfl⟩:=List.mem_map.1 h
    exact hf y
theorem weak_stale {m:Nat} {s:St} {α:Type} {f:α→V} {l:List α} {i:Nat} {x:α} (id:Nat) (u v:V) (hx:l[i]? =some x) (hO:s.O[id]? =some (.arr ((List.replicate i ST2++(l.drop i).map f).set i (.agg [u,v])) .part)) :
    Weak m s {s with O:=s.O.set id (.arr (List.replicate (i+1) ST2++(l.drop (i+1)).map f) .part)}:=
  weak_cells id _ _ _ _ .part hO (.inl ⟨rfl,rfl⟩) (stale_wk hx u v) (stale_len hx _) (stale_sz hx u v)
set_option maxRecDepth 8000 in
set_option maxHeartbeats 1000000 in
theorem ixClose_con (l:List (Int×Int×Bool×List ByteArray)) (k:Nat) (x0:Int) (x1:Int) (x2:Bool) (x3:List ByteArray) (hl:l.length≤1048576) (hli:∀x∈l,x.2.2.2.length≤1048576) (hk:l[k]? =some (x0,x1,x2,x3)):Con Tryz.prog 57 [.sl (l.map (fun t:Int×Int×Bool×List ByteArray=>V.agg [V.int .i64 t.1,V.int .i64 t.2.1,V.bool t.2.2.1,V.sl (t.2.2.2.map V.str)])),.int .i64 (Nat.cast k)] [] (.ref 0) [.arr ((l.set k (x0,x1,true,[])).map (fun t:Int×Int×Bool×List ByteArray=>V.agg [V.int .i64 t.1,V.int .i64 t.2.1,V.bool t.2.2.1,V.sl (t.2.2.2.map V.str)])) .deep]:=by
 have hkl:=(List.getElem?_eq_some_iff.1 hk).1
 have hfin:(l.map (fun t:Int×Int×Bool×List ByteArray=>V.agg [V.int .i64 t.1,V.int .i64 t.2.1,V.bool t.2.2.1,V.sl (t.2.2.2.map V.str)])).set k (V.agg [V.int .i64 x0,V.int .i64 x1,V.bool true,V.sl []])=(l.set k (x0,x1,true,[])).map (fun t:Int×Int×Bool×List ByteArray=>V.agg [V.int .i64 t.1,V.int .i64 t.2.1,V.bool t.2.2.1,V.sl (t.2.2.2.map V.str)]):=by have q:=List.map_set (f:=(fun t:Int×Int×Bool×List ByteArray=>V.agg [V.int .i64 t.1,V.int .i64 t.2.1,V.bool t.2.2.1,V.sl (t.2.2.2.map V.str)])) (l:=l) (i:=k) (a:=(x0,x1,true,[]));exact q.symm
 refine v_con [.tmp 4] [] Tryz.func57 rfl rfl rfl (by simp [Tryz.ntmps57]) ?_
 intro Q0 n0 r0
 simp only [Tryz.ntmps57,envFrom,Nat.reduceAdd]
 have T:=Tys.mk (And.intro Ty.t3 (And.intro Ty.t4 (And.intro Ty.t9 (And.intro Ty.t33 (And.intro Ty.t51 Ty.t99)))))
 have F:=Fc.mk True.intro
 have F:=Fc.mk (And.intro @Int.toNat_natCast (And.intro (fun f=>getD_map (f:=f) hk) hfin))
 refine yR [0,1] ⟨?_⟩;refine v_seq ?_;intro Q2 n2 e2 r2;refine yVc (ixOwn_con l hl hli) ⟨?_⟩
 apply n2
 ·apply weak_trans (weak_keep [0,1,5] _)
  simp only [keep_mk,keepE_nil,keepE_cons,look_cons,look_nil,Nat.reduceEqDiff,reduceIte]
  exact weak_fk 1 l.length _ rfl
 try simp only [atSlot_cons,atSlot_nil,Nat.reduceEqDiff,reduceIte,List.set_cons_zero,List.set_cons_succ]
 refine v_seq ?_;intro Q4 n4 e4 r4;refine v_draw (by kernel_rfl) ?_;intro K5 q5 k5
 show aAny _ _ _ _ 15 (Array.replicate 15 false) _
 refine zdMove q5 true 0 8 ?_;refine zdMove q5 true 1 9 ?_;refine zdMove q5 true 2 10 ?_;refine zdMove q5 true 3 11 ?_;refine zdIndexAddr q5 true 4 12 ?_;refine zdFieldAddr q5 true 5 13 ?_;refine zdLoadX q5 true 6 14 ?_;refine zdMove q5 true 7 15 ?_;refine zdMove q5 true 8 16 ?_;refine zdIndexAddr q5 true 9 17 ?_;refine zdFieldAddr q5 true 10 18 ?_;refine zdLoadX q5 true 11 19 ?_;refine zdBuild q5 true 12 20 ?_;refine zdIndexAddr q5 true 13 21 ?_;refine zoStore 14 ⟨?_⟩;refine aAny_done (by kernel_rfl) ?_;refine k5 _ ?_;refine n4 _ _ (weak_keep [5] _) ?_;refine zk ⟨?_⟩;refine yR [4] ⟨?_⟩;refine zr ⟨?_⟩
 exact ret_all rfl (by first | decide | simp [newIds,refsOf,refs2,refs1]) (by simp) rfl (by simp [newIds,refsOf,refs2,refs1]) (by simp [Blk.kindIs,fillK_fd]) rfl
set_option maxRecDepth 100000 in
set_option maxHeartbeats 1000000 in
theorem specFin_con (n:Int) (ss:List (Int×Int×Int)) (fl:List (ByteArray×Int×Int×Int×Int)) (ins:List (Int×Int×Bool×List ByteArray)) (ws:List (Int×List Int)) (m:Int) (hs:ss.length≤1048576) (hl:fl.length≤1048576) (hls:∀t∈fl,t.1.size≤9223372036854775807) (hil:ins.length≤1048576) (hin:∀x∈ins,x.2.2.2.length≤1048576) (his:∀x∈ins,∀s∈x.2.2.2,s.size≤9223372036854775807) (hwl:ws.length≤1048576) (hwn:∀x∈ws,x.2.length≤1048576):Con Tryz.prog 10 [.agg [.int .i64 n,.sl (ss.map (fun t:Int×Int×Int=>V.agg [V.int .i64 t.1,V.int .i64 t.2.1,V.int .i64 t.2.2]))],.agg [.sl (fl.map (fun t:ByteArray×Int×Int×Int×Int=>V.agg [V.str t.1,V.int .i64 t.2.1,V.int .i64 t.2.2.1,V.int .i64 t.2.2.2.1,V.int .i64 t.2.2.2.2])),.sl (ins.map (fun t:Int×Int×Bool×List ByteArray=>V.agg [V.int .i64 t.1,V.int .i64 t.2.1,V.bool t.2.2.1,V.sl (t.2.2.2.map V.str)])),.sl (ws.map (fun t:Int×List Int=>V.agg [V.int .i64 t.1,V.sl (t.2.map (V.int .i64))]))],.int .i64 m] [] (.tup [.agg [.ref 0,.ref 1,.ref 2],.bool (atB n ss fl ins ws m)]) [.arr ((orNil (atB n ss fl ins ws m) (finF fl (finN ins m))).map (fun t:ByteArray×Int×Int×Int×Int=>V.agg [V.str t.1,V.int .i64 t.2.1,V.int .i64 t.2.2.1,V.int .i64 t.2.2.2.1,V.int .i64 t.2.2.2.2])) .flat,.arr ((orNil (atB n ss fl ins ws m) (finI ins m)).map (fun t:Int×Int×Bool×List ByteArray=>V.agg [V.int .i64 t.1,V.int .i64 t.2.1,V.bool t.2.2.1,V.sl (t.2.2.2.map V.str)])) (fillK (orNil (atB n ss fl ins ws m) (finI ins m)).length),.arr ((orNil (atB n ss fl ins ws m) (finW ws m)).map (fun t:Int×List Int=>V.agg [V.int .i64 t.1,V.sl (t.2.map (V.int .i64))])) (fillK (orNil (atB n ss fl ins ws m) (finW ws m)).length)]:=by
 refine v_con [.cell 6 36,.tmp 7] [] Tryz.func10 rfl rfl rfl (by simp [Tryz.ntmps10]) ?_
 intro Q0 n0 r0
 simp only [Tryz.ntmps10,envFrom,Nat.reduceAdd]
 have T:=Tys.mk (And.intro Ty.t3 (And.intro Ty.t4 (And.intro Ty.t9 (And.intro Ty.t32 (And.intro Ty.t33 (And.intro Ty.t34 (And.intro Ty.t36 (And.intro Ty.t39 (And.intro Ty.t41 (And.intro Ty.t51 (And.intro Ty.t75 (And.intro Ty.t96 (And.intro Ty.t99 (And.intro Ty.t102 Ty.t169))))))))))))))
 have F:=Fc.mk True.intro
 refine yR [2,3,4,6] ⟨?_⟩;refine v_seq ?_;intros;refine yRcg [2,4,6,24] (roGood_con n ss fl ins ws hs hl hls hil hin his hwl hwn) (ixFind_con ins m hil) ⟨?_⟩;refine v_condS _ rfl ?_ ?_
 ·intro hc0
  have hB:(atB n ss fl ins ws m)=false:=by
   rw [atB]
   cases hq:(ctlB n ss fl ins ws) with
   |false=>rfl
   |true=>(have ht:=ctl_town hq;simp [hq,ht] at hc0;simp;omega)
  refine yR [6,7] ⟨?_⟩;refine zr ⟨?_⟩
  simp only [zE,zL,zO,zN,aStepM,optable,set_some,Nat.reduceEqDiff,reduceIte,Nat.reduceLT,implies_true,forall_const,reduceCtorEq,V.ofValue,V.ofScalar,V.un,V.gd,aLoad,row_mk,Blk.row,PartOK,Go.Vm.part,V.cells,V.noSl,V.noRef,Nat.reduceAdd,Nat.reduceLeDiff,Nat.reduceMul,Tryz.underlying32,Ty.c32,Ty.a32,Tryz.underlying33,Ty.c33,Ty.a33,Tryz.underlying34,Ty.c34,Ty.a34,Tryz.underlying36,Ty.c36,Ty.a36]
  simp only [hB,orNil_f,List.map_nil,List.length_nil,fillK_0]
  exact ret_all rfl (by first | decide | simp [newIds,refsOf,refs2,refs1]) (by simp) rfl (by simp [newIds,refsOf,refs2,refs1]) (by simp [Blk.kindIs,fillK_fd]) rfl
 ·intro hc0
  have hB:(atB n ss fl ins ws m)=true:=by
   rw [atB]
   cases hq:(ctlB n ss fl ins ws) with
   |false=>simp [hq] at hc0
   |true=>(have ht:=ctl_town hq;simp [hq,ht] at hc0;simp;omega)
  have hB2:=hB
  rw [atB,Bool.and_eq_true,decide_eq_true_eq] at hB2
  have hp:=(ctl_iff n ss fl ins ws).1 hB2.1
  obtain ⟨k,t,hk1,hk2,hk3⟩:=openF_at hB2.2
  obtain ⟨t0,t1,t2,t3⟩:=t
  have hkl:k < ins.length:=(List.getElem?_eq_some_iff.1 hk1).1
  obtain ⟨hfn,hfi⟩:=fin_at hk3 hk1
  simp only [] at hfn hfi
  have hnl:=hin _ (List.mem_of_getElem? hk1)
  simp only [] at hnl
  refine zn [2,4,6] ⟨?_⟩
  have F:=Fc.mk (And.intro hk3 (And.intro @Int.toNat_natCast (fun f=>getD_map (f:=f) hk1)))
  refine yRc [2,4,6,8] (ixFind_con ins m hil) ⟨?_⟩;refine yRc [2,4,6,8,9] (roOwn_con fl ins ws hl hil hin hwl hwn) ⟨?_⟩;refine yRc [2,4,6,8,9] (ixClose_con ins k t0 t1 t2 t3 hil hin hk1) ⟨?_⟩;refine v_seq ?_;intros;refine yR [2,4,6,8,9,38,39,40] ⟨?_⟩;refine v_block ?_;intros;refine v_loop (fun j=>⟨[(2,.int .i64 m),(4,.ptr 0 0 0),(6,.ptr 4 0 0),(8,.int .i64 (Nat.cast k)),(9,.ptr 8 0 0),(38,.sl (fl.map (fun t:ByteArray×Int×Int×Int×Int=>V.agg [V.str t.1,V.int .i64 t.2.1,V.int .i64 t.2.2.1,V.int .i64 t.2.2.2.1,V.int .i64 t.2.2.2.2]))),(39,.int .i64 fl.length),(40,.int .i64 (Nat.cast j))],[.box (.agg [.sl (fl.map (fun t:ByteArray×Int×Int×Int×Int=>V.agg [V.str t.1,V.int .i64 t.2.1,V.int .i64 t.2.2.1,V.int .i64 t.2.2.2.1,V.int .i64 t.2.2.2.2])),.sl (ins.map (fun t:Int×Int×Bool×List ByteArray=>V.agg [V.int .i64 t.1,V.int .i64 t.2.1,V.bool t.2.2.1,V.sl (t.2.2.2.map V.str)])),.sl (ws.map (fun t:Int×List Int=>V.agg [V.int .i64 t.1,V.sl (t.2.map (V.int .i64))]))]) .shal,.arr [] .flat,.arr [] .flat,.arr [] .flat,.box (.agg [.ref 1,.ref 2,.ref 3]) .mix,.arr (((finF fl t3).take j++fl.drop j).map (fun t:ByteArray×Int×Int×Int×Int=>V.agg [V.str t.1,V.int .i64 t.2.1,V.int .i64 t.2.2.1,V.int .i64 t.2.2.2.1,V.int .i64 t.2.2.2.2])) .flat,.arr ((ins.set k (t0,t1,true,[])).map (fun t:Int×Int×Bool×List ByteArray=>V.agg [V.int .i64 t.1,V.int .i64 t.2.1,V.bool t.2.2.1,V.sl (t.2.2.2.map V.str)])) .deep,.arr (ws.map (fun t:Int×List Int=>V.agg [V.int .i64 t.1,V.sl (t.2.map (V.int .i64))])) (fillK ws.length),.box (.agg [.ref 5,.ref 6,.ref 7]) .mix],false,87,0⟩) (fun j=>j≤fl.length) (fun j=>fl.length - j) 0 ?_ ?_ ?_
  ·refine weak_bothN [2,4,6,8,9,38,39,40] [1,2,3,4,5,6,13,8,12] ⟨?_⟩
   rfl
  ·exact Nat.zero_le _
  ·rintro j hok12 Q12 n12 e12 r12
   have hj1:j≤fl.length:=hok12
   refine yR [2,4,6,8,9,38,39,40,41] ⟨?_⟩;refine v_seq ?_;intros;refine v_condS _ rfl ?_ ?_
   ·intro hc1
    have hlt:j < fl.length:=by omega
    obtain ⟨⟨x0,x1,x2,x3,x4⟩,hx⟩:∃x:ByteArray×Int×Int×Int×Int,fl[j]? =some x:=⟨fl[j]'(by omega),List.getElem?_eq_getElem (by omega)⟩
    have hpl:((finF fl t3).take j++fl.drop j).length=fl.length:=by rw [List.length_append,List.length_take,List.length_drop,finF_len];omega
    have hsp:((finF fl t3).take j++fl.drop j)[j]? =some (x0,x1,x2,x3,x4):=by rw [List.getElem?_append_right (by rw [List.length_take,finF_len];omega),List.length_take,finF_len,List.getElem?_drop,show j+(j - min j fl.length)=j from by omega];exact hx
    refine zn [2,4,6,8,9,38,39,40] ⟨?_⟩;refine v_seq ?_;intros;refine v_block ?_;intros
    have F:=Fc.mk (And.intro hk3 (And.intro @Int.toNat_natCast (And.intro (fun f=>getD_map (f:=f) hk1) (And.intro (fun f=>getD_map (f:=f) hx) (And.intro hpl (fun f=>getD_map (f:=f) hsp))))))
    refine yR [2,4,6,8,9,10,11,38,39,40] ⟨?_⟩;refine v_seq ?_;intros;refine v_seq ?_;intro Q20 n20 e20 r20;refine v_draw (by kernel_rfl) ?_;intro K21 q21 k21
    show aAny _ _ _ _ 10 (Array.replicate 10 false) _
    refine zdFieldAddr q21 true 0 45 ?_;refine zdLoadX q21 true 1 46 ?_;refine zdMove q21 true 2 47 ?_;refine zdIndexAddr q21 true 3 48 ?_;refine zdFieldAddr q21 true 4 49 ?_;refine zdLoadX q21 true 5 50 ?_;refine zdFieldAddr q21 true 6 51 ?_;refine zdLoadX q21 true 7 52 ?_;refine zoc 8 (dsHas_con t3 x0 hnl) ⟨?_⟩;refine zdUnOp q21 true 9 54 ?_;refine aAny_done (by kernel_rfl) ?_;refine k21 _ ?_;refine n20 _ _ (weak_keep [2,4,6,8,9,10,11,38,39,40,54] _) ?_;refine zk ⟨?_⟩;refine v_condS _ rfl ?_ ?_
    ·intro hc2
     have hin3:inS x0 t3=false:=by simpa using hc2
     have hst:=spF_same (names:=t3) hx hin3
     refine zn [2,4,6,8,9,38,39,40] ⟨?_⟩;refine yV ⟨?_⟩;refine n12 _ (j+1) ?_ ?_ ?_
     ·refine weak_bothN [2,4,6,8,9,38,39,40] [0,1,2,3,4,5,6,7,8] ⟨?_⟩
      rw [hst];rfl
     ·exact hlt
     ·show _ < _;omega
    ·intro hc2
     have hin3:inS x0 t3=true:=by simpa using hc2
     have hse:=spF_step (names:=t3) hx
     refine zn [2,4,6,8,9,10,11,38,39,40] ⟨?_⟩;refine v_seq ?_;intros;refine yR [2,4,6,8,9,10,11,38,39,40,57] ⟨?_⟩;refine v_condS _ rfl ?_ ?_
     ·intro hc3
      have hfe:finE t3 (x0,x1,x2,x3,x4)=(x0,x1,x2,x3,0):=by simp [finE,finA,finS,hin3,hc3]
      rw [hfe] at hse
      have hsm:(((finF fl t3).take j++fl.drop j).map (fun t:ByteArray×Int×Int×Int×Int=>V.agg [V.str t.1,V.int .i64 t.2.1,V.int .i64 t.2.2.1,V.int .i64 t.2.2.2.1,V.int .i64 t.2.2.2.2])).set j (V.agg [V.str x0,V.int .i64 x1,V.int .i64 x2,V.int .i64 x3,V.int .i64 0])=((finF fl t3).take (j+1)++fl.drop (j+1)).map (fun t:ByteArray×Int×Int×Int×Int=>V.agg [V.str t.1,V.int .i64 t.2.1,V.int .i64 t.2.2.1,V.int .i64 t.2.2.2.1,V.int .i64 t.2.2.2.2]):=by rw [←hse,List.map_set]
      have F:=Fc.mk (And.intro hk3 (And.intro @Int.toNat_natCast (And.intro (fun f=>getD_map (f:=f) hk1) (And.intro (fun f=>getD_map (f:=f) hx) (And.intro hpl (And.intro (fun f=>getD_map (f:=f) hsp) hsm))))))
      refine yQ [2,4,6,8,9,10,11,38,39,40] ⟨?_⟩;refine yQ [2,4,6,8,9,38,39,40] ⟨?_⟩;refine yV ⟨?_⟩;refine n12 _ (j+1) ?_ ?_ ?_
      ·refine weak_bothN [2,4,6,8,9,38,39,40] [0,1,2,3,4,5,6,7,8] ⟨?_⟩
       rfl
      ·exact hlt
      ·show _ < _;omega
     ·intro hc3
      have hfe:finE t3 (x0,x1,x2,x3,x4)=(x0,x1,x2,x3,4):=by simp [finE,finA,finS,hin3,hc3]
      rw [hfe] at hse
      have hsm:(((finF fl t3).take j++fl.drop j).map (fun t:ByteArray×Int×Int×Int×Int=>V.agg [V.str t.1,V.int .i64 t.2.1,V.int .i64 t.2.2.1,V.int .i64 t.2.2.2.1,V.int .i64 t.2.2.2.2])).set j (V.agg [V.str x0,V.int .i64 x1,V.int .i64 x2,V.int .i64 x3,V.int .i64 4])=((finF fl t3).take (j+1)++fl.drop (j+1)).map (fun t:ByteArray×Int×Int×Int×Int=>V.agg [V.str t.1,V.int .i64 t.2.1,V.int .i64 t.2.2.1,V.int .i64 t.2.2.2.1,V.int .i64 t.2.2.2.2]):=by rw [←hse,List.map_set]
      have F:=Fc.mk (And.intro hk3 (And.intro @Int.toNat_natCast (And.intro (fun f=>getD_map (f:=f) hk1) (And.intro (fun f=>getD_map (f:=f) hx) (And.intro hpl (And.intro (fun f=>getD_map (f:=f) hsp) hsm))))))
      refine yQ [2,4,6,8,9,10,11,38,39,40] ⟨?_⟩;refine yQ [2,4,6,8,9,38,39,40] ⟨?_⟩;refine yV ⟨?_⟩;refine n12 _ (j+1) ?_ ?_ ?_
      ·refine weak_bothN [2,4,6,8,9,38,39,40] [0,1,2,3,4,5,6,7,8] ⟨?_⟩
       rfl
      ·exact hlt
      ·show _ < _;omega
   ·intro hc1
    have hje:((finF fl t3).take j++fl.drop j)=finF fl t3:=by rw [List.take_of_length_le (by rw [finF_len];omega),List.drop_of_length_le (by omega),List.append_nil]
    rw [hje]
    refine zn [2,4,6,9] ⟨?_⟩;refine yR [2,4,6,9] ⟨?_⟩;refine v_seq ?_;intros;refine v_seq ?_;intro Q35 n35 e35 r35;refine yVc (roWants_con ws hwl hwn) ⟨?_⟩
    apply n35
    ·apply weak_trans (weak_keep [2,6,9,69,70,71] _)
     simp only [keep_mk,keepE_nil,keepE_cons,look_cons,look_nil,Nat.reduceEqDiff,reduceIte]
     exact weak_fk 10 ws.length (ws.map (fun t:Int×List Int=>V.agg [V.int .i64 t.1,V.sl (t.2.map (V.int .i64))])) rfl
    try simp only [atSlot_cons,atSlot_nil,Nat.reduceEqDiff,reduceIte,List.set_cons_zero,List.set_cons_succ]
    refine v_block ?_;intros;refine v_loop (fun i=>⟨[(2,.int .i64 m),(6,.ptr 3 0 0),(9,.ptr 7 0 0),(69,.ref 8),(70,.int .i64 ws.length),(71,.int .i64 (Nat.cast i))],[.arr [] .flat,.arr [] .flat,.arr [] .flat,.box (.agg [.ref 0,.ref 1,.ref 2]) .mix,.arr ((finF fl t3).map (fun t:ByteArray×Int×Int×Int×Int=>V.agg [V.str t.1,V.int .i64 t.2.1,V.int .i64 t.2.2.1,V.int .i64 t.2.2.2.1,V.int .i64 t.2.2.2.2])) .flat,.arr ((ins.set k (t0,t1,true,[])).map (fun t:Int×Int×Bool×List ByteArray=>V.agg [V.int .i64 t.1,V.int .i64 t.2.1,V.bool t.2.2.1,V.sl (t.2.2.2.map V.str)])) .deep,.arr ((finW (ws.take i) m).map (fun t:Int×List Int=>V.agg [V.int .i64 t.1,V.sl (t.2.map (V.int .i64))])) (fillK (finW (ws.take i) m).length),.box (.agg [.ref 4,.ref 5,.ref 6]) .mix,.arr (List.replicate i ST2++(ws.drop i).map (fun t:Int×List Int=>V.agg [V.int .i64 t.1,V.sl (t.2.map (V.int .i64))])) .deep],false,87,0⟩) (fun i=>i≤ws.length) (fun i=>ws.length - i) 0 ?_ ?_ ?_
    ·refine weak_bothN [2,6,9,69,70,71] [1,2,3,4,5,6,9,8,10] ⟨?_⟩
     rfl
    ·exact Nat.zero_le _
    ·rintro i hok38 Q38 n38 e38 r38
     have hi1:i≤ws.length:=hok38
     refine yR [2,6,9,69,70,71,72] ⟨?_⟩;refine v_seq ?_;intro Q40 n40 e40 r40;refine v_condS _ rfl ?_ ?_
     ·intro hc4
      have hlt:i < ws.length:=by omega
      obtain ⟨⟨x0,x1⟩,hx⟩:∃x:Int×List Int,ws[i]? =some x:=⟨ws[i]'(by omega),List.getElem?_eq_getElem (by omega)⟩
      have hrn:=(hp.want _ (List.mem_of_getElem? hx)).2
      simp only [] at hrn
      have hne:x1.map (V.int .i64)≠[]:=by
       intro e
       rw [List.map_eq_nil_iff.1 e] at hrn
       exact absurd hrn (by decide)
      have hri:(List.replicate i ST2++(ws.drop i).map (fun t:Int×List Int=>V.agg [V.int .i64 t.1,V.sl (t.2.map (V.int .i64))]))[i]? =some (V.agg ([V.int .i64 x0]++[V.sl (x1.map (V.int .i64))])):=stale_get hx
      have hrl:(List.replicate i ST2++(ws.drop i).map (fun t:Int×List Int=>V.agg [V.int .i64 t.1,V.sl (t.2.map (V.int .i64))])).length=ws.length:=by simp;omega
      have hgd:((List.replicate i ST2++(ws.drop i).map (fun t:Int×List Int=>V.agg [V.int .i64 t.1,V.sl (t.2.map (V.int .i64))])).set i (V.agg [V.int .i64 x0,V.ref 9])).getD i .any=V.agg [V.int .i64 x0,V.ref 9]:=getD_set (by rw [hrl];exact hlt)
      have hcz0:=stale_cells (f:=(fun t:Int×List Int=>V.agg [V.int .i64 t.1,V.sl (t.2.map (V.int .i64))])) hx (V.int .i64 x0) (V.ref 9) (fun z=>rfl)
      simp only [V.cells] at hcz0
      have hcz:=eq_true hcz0
      have hfwl:(finW (ws.take i) m).length≤1048576:=Nat.le_trans (finW_len ..) (by rw [List.length_take];omega)
      refine v_skip ?_
      apply n40
      ·apply weak_trans (weak_keep [2,6,9,69,70,71] _)
       simp only [keep_mk,keepE_nil,keepE_cons,look_cons,look_nil,Nat.reduceEqDiff,reduceIte]
       exact weak_outL 8 i _ [V.int .i64 x0] (x1.map (V.int .i64)) .deep .flat rfl (.inl rfl) hri hne (.inr ⟨rfl,by rw [List.all_map,List.all_eq_true];intro a _;rfl⟩) rfl
      try simp only [atSlot_cons,atSlot_nil,Nat.reduceEqDiff,reduceIte,List.set_cons_zero,List.set_cons_succ]
      refine v_seq ?_;intro Q42 n42 e42 r42;refine v_block ?_;intros
      have F:=Fc.mk (And.intro hk3 (And.intro @Int.toNat_natCast (And.intro (fun f=>getD_map (f:=f) hk1) (And.intro hgd (And.intro hrl (And.intro @List.length_set.{0} hcz))))))
      refine yR [2,6,9,13,69,70,71] ⟨?_⟩;refine yR [2,6,9,13,69,70,71,78] ⟨?_⟩;refine v_condS _ rfl ?_ ?_
      ·intro hc5
       have hst:finW (ws.take (i+1)) m=finW (ws.take i) m++[(x0,x1)]:=by
        have e:x0≠m:=hc5
        rw [List.take_add_one,hx,finW,finW,List.filter_append]
        simp [e]
       have hsn:(finW (ws.take i) m).map (fun t:Int×List Int=>V.agg [V.int .i64 t.1,V.sl (t.2.map (V.int .i64))])++[V.agg [V.int .i64 x0,V.sl (x1.map (V.int .i64))]]=(finW (ws.take (i+1)) m).map (fun t:Int×List Int=>V.agg [V.int .i64 t.1,V.sl (t.2.map (V.int .i64))]):=by rw [hst,List.map_append];rfl
       have hln:(finW (ws.take (i+1)) m).length=(finW (ws.take i) m).length+1:=by rw [hst,List.length_append];rfl
       refine yV ⟨?_⟩
       apply n42
       ·apply weak_trans (weak_keep [2,6,9,69,70,71] _)
        simp only [keep_mk,keepE_nil,keepE_cons,look_cons,look_nil,Nat.reduceEqDiff,reduceIte]
        exact weak_trans (weak_stale (f:=(fun t:Int×List Int=>V.agg [V.int .i64 t.1,V.sl (t.2.map (V.int .i64))])) 8 (V.int .i64 x0) (V.ref 9) hx rfl) (weak_dp 8 _ _ _ rfl (.inl ⟨rfl,rfl⟩) (by rw [List.all_append,List.all_map,Bool.and_eq_true,List.all_eq_true,List.all_eq_true];exact ⟨fun a ha=>by rw [List.eq_of_mem_replicate ha];rfl,fun a _=>rfl⟩))
       try simp only [atSlot_cons,atSlot_nil,Nat.reduceEqDiff,reduceIte,List.set_cons_zero,List.set_cons_succ]
       refine yV ⟨?_⟩;refine n38 _ (i+1) ?_ ?_ ?_
       ·refine weak_bothN [2,6,9,69,70,71] [0,1,2,3,4,5,13,7,8] ⟨?_⟩
        rw [←hsn,hln];rfl
       ·exact hlt
       ·show _ < _;omega
      ·intro hc5
       have hst:finW (ws.take (i+1)) m=finW (ws.take i) m:=by
        have e:x0=m:=by first | exact hc5 | simpa using hc5
        rw [List.take_add_one,hx,finW,finW,List.filter_append]
        simp [e]
       refine zx ⟨?_⟩
       apply n42
       ·apply weak_trans (weak_keep [2,6,9,69,70,71] _)
        simp only [keep_mk,keepE_nil,keepE_cons,look_cons,look_nil,Nat.reduceEqDiff,reduceIte]
        exact weak_trans (weak_stale (f:=(fun t:Int×List Int=>V.agg [V.int .i64 t.1,V.sl (t.2.map (V.int .i64))])) 8 (V.int .i64 x0) (V.ref 9) hx rfl) (weak_dp 8 _ _ _ rfl (.inl ⟨rfl,rfl⟩) (by rw [List.all_append,List.all_map,Bool.and_eq_true,List.all_eq_true,List.all_eq_true];exact ⟨fun a ha=>by rw [List.eq_of_mem_replicate ha];rfl,fun a _=>rfl⟩))
       try simp only [atSlot_cons,atSlot_nil,Nat.reduceEqDiff,reduceIte,List.set_cons_zero,List.set_cons_succ]
       refine yV ⟨?_⟩;refine n38 _ (i+1) ?_ ?_ ?_
       ·refine weak_bothN [2,6,9,69,70,71] [0,1,2,3,4,5,6,7,8] ⟨?_⟩
        rw [hst];rfl
       ·exact hlt
       ·show _ < _;omega
     ·intro hc4
      have hie:ws.take i=ws:=List.take_of_length_le (by omega)
      rw [hie]
      refine zn [6,9] ⟨?_⟩;refine v_seq ?_;intro Q50 n50 e50 r50;refine yV ⟨?_⟩
      apply n50
      ·apply weak_trans (weak_keep [6,7] _)
       simp only [keep_mk,keepE_nil,keepE_cons,look_cons,look_nil,Nat.reduceEqDiff,reduceIte]
       exact weak_kf 5 _ (ins.set k (t0,t1,true,[])).length rfl (List.length_map _)
      try simp only [atSlot_cons,atSlot_nil,Nat.reduceEqDiff,reduceIte,List.set_cons_zero,List.set_cons_succ]
      refine zr ⟨?_⟩
      simp only [zE,zL,zO,zN,aStepM,optable,set_some,Nat.reduceEqDiff,reduceIte,Nat.reduceLT,implies_true,forall_const,reduceCtorEq,V.ofValue,V.ofScalar,V.un,V.gd,aLoad,row_mk,Blk.row,PartOK,Go.Vm.part,V.cells,V.noSl,V.noRef,Nat.reduceAdd,Nat.reduceLeDiff,Nat.reduceMul,Tryz.underlying32,Ty.c32,Ty.a32,Tryz.underlying33,Ty.c33,Ty.a33,Tryz.underlying34,Ty.c34,Ty.a34,Tryz.underlying36,Ty.c36,Ty.a36]
      simp only [hB,orNil_t,hfn,hfi]
      exact ret_all rfl (by first | decide | simp [newIds,refsOf,refs2,refs1]) (by simp) rfl (by simp [newIds,refsOf,refs2,refs1]) (by simp [Blk.kindIs,fillK_fd]) rfl
def delK {α:Type} (p:α→Bool) (l:List α) (j:Nat):List α:=(l.take j).filter fun x=> !p x
def delR {α:Type} (f:α→V) (p:α→Bool) (l:List α) (j:Nat):List V:=(delK p l j).map f++(List.replicate (j - (delK p l j).length) ST2++(l.drop j).map f)
theorem delK_le {α:Type} (p:α→Bool) (l:List α) (j:Nat):(delK p l j).length≤j:=Nat.le_trans (List.length_filter_le ..) (by rw [List.length_take];omega)
theorem delR_len {α:Type} {f:α→V} {p:α→Bool} {l:List α} {j:Nat} (hj:j≤l.length):(delR f p l j).length=l.length:=by
  have:=delK_le p l j
  simp only [delR,List.length_append,List.length_map,List.length_replicate,List.length_drop];omega
theorem delR_get {α:Type} {f:α→V} {p:α→Bool} {l:List α} {j:Nat} {x:α} (hx:l[j]? =some x):(delR f p l j)[j]? =some (f x):=by
  have:=delK_le p l j
  rw [delR,List.getElem?_append_right (by rw [List.length_map];omega),List.getElem?_append_right (by simp),List.length_map,List.length_replicate,Nat.sub_self,List.getElem?_map,List.getElem?_drop,Nat.add_zero,hx];rfl
theorem delK_yes {α:Type} {p:α→Bool} {l:List α} {j:Nat} {x:α} (hx:l[j]? =some x) (hp:p x=true):delK p l (j+1)=delK p l j:=by
  rw [delK,List.take_add_one,hx,List.filter_append];simp [hp,delK]
theorem delK_no {α:Type} {p:α→Bool} {l:List α} {j:Nat} {x:α} (hx:l[j]? =some x) (hp:p x=false):delK p l (j+1)=delK p l j++[x]:=by
  rw [delK,List.take_add_one,hx,List.filter_append];simp [hp,delK]
theorem rep_snoc (n:Nat) (R:List V):List.replicate n ST2++ST2::R=List.replicate (n+1) ST2++R:=by
  rw [List.replicate_succ',List.append_assoc,List.singleton_append]
theorem delR_set {α:Type} {f:α→V} {p:α→Bool} {l:List α} {j:Nat} {x:α} (hx:l[j]? =some x) (y:V):(delR f p l j).set j y=(delK p l j).map f++(List.replicate (j - (delK p l j).length) ST2++y::(l.drop (j+1)).map f):=by
  have h:=delK_le p l j
  have hl:=(List.getElem?_eq_some_iff.1 hx).1
  rw [delR,List.set_append_right _ _ (by rw [List.length_map];exact h),List.length_map,List.set_append_right _ _ (by simp),List.length_replicate,Nat.sub_self,List.drop_eq_getElem_cons hl,List.map_cons,List.set_cons_zero]
theorem delR_yes {α:Type} {f:α→V} {p:α→Bool} {l:List α} {j:Nat} {x:α} (hx:l[j]? =some x) (hp:p x=true) (y:V):((delR f p l j).set j y).set j ST2=delR f p l (j+1):=by
  have h:=delK_le p l j
  rw [List.set_set,delR_set hx,delR,delK_yes hx hp,rep_snoc,show j - (delK p l j).length+1=j+1 - (delK p l j).length by omega]
theorem delR_no {α:Type} {f:α→V} {p:α→Bool} {l:List α} {j:Nat} {x:α} (hx:l[j]? =some x) (hp:p x=false) (hc:(delK p l j).length < j) (y:V):(((delR f p l j).set j y).set (delK p l j).length (f x)).set j ST2=delR f p l (j+1):=by
  obtain ⟨d,hd⟩:∃d,j - (delK p l j).length=d+1:=⟨j - (delK p l j).length - 1,by omega⟩
  have hn:(delK p l (j+1)).length=(delK p l j).length+1:=by rw [delK_no hx hp];simp
  rw [delR_set hx,hd,List.set_append_right _ _ (by rw [List.length_map];exact Nat.le_refl _),List.length_map,Nat.sub_self,List.replicate_succ,List.cons_append,List.set_cons_zero,
    List.set_append_right _ _ (by rw [List.length_map];omega),List.length_map,hd,List.set_cons_succ,List.set_append_right _ _ (by simp),List.length_replicate,Nat.sub_self,List.set_cons_zero,
    delR,delK_no hx hp,List.length_append,List.length_singleton,show j+1 - ((delK p l j).length+1)=d+1 by omega,rep_snoc,List.map_append,List.append_assoc]
  rfl
theorem delR_end {α:Type} {f:α→V} {p:α→Bool} {l:List α} {j:Nat} (hj:l.length≤j) (hk:j≤l.length):delR f p l j=(l.filter fun x=> !p x).map f++List.replicate (l.length - (l.filter fun x=> !p x).length) ST2∧delK p l j=l.filter fun x=> !p x:=by
  have e:delK p l j=l.filter fun x=> !p x:=by rw [delK,List.take_of_length_le hj]
  refine ⟨?_,e⟩
  rw [delR,e,List.drop_of_length_le hj,show j=l.length by omega];simp
theorem delR_low {α:Type} {f:α→V} {p:α→Bool} {l:List α} {j:Nat} (hc:(delK p l j).length < j) (y:V):((delR f p l j).set j y).getD (delK p l j).length .any=V.agg [.any,.any]:=by
  rw [List.getD_eq_getElem?_getD,List.getElem?_set_ne (by omega),delR,List.getElem?_append_right (by rw [List.length_map];exact Nat.le_refl _),List.length_map,Nat.sub_self,List.getElem?_append_left (by rw [List.length_replicate];omega),List.getElem?_replicate,if_pos (by omega)];rfl
theorem delR_noRef {α:Type} {f:α→V} (p:α→Bool) (l:List α) (j:Nat) (hf:∀z,(f z).noRef=true):(delR f p l j).all V.noRef=true:=by
  simp only [delR,List.all_append,List.all_map,Bool.and_eq_true,List.all_eq_true]
  exact ⟨fun a _=>hf a,fun a ha=>by rw [List.eq_of_mem_replicate ha];rfl,fun a _=>hf a⟩
theorem delR_cells {α:Type} {f:α→V} (p:α→Bool) (l:List α) (j:Nat) (hf:∀z,(f z).cells.length=2):∀z∈delR f p l j,z.cells.length=2:=by
  intro z hz
  simp only [delR,List.mem_append,List.mem_map] at hz
  rcases hz with ⟨y,_,rfl⟩ | h | ⟨y,_,rfl⟩
  · exact hf y
  · rw [List.eq_of_mem_replicate h];rfl
  · exact hf y
theorem weak_any2 {m:Nat} {s:St} (id j:Nat) (xs:List V) (u v:V) (k:Kd) (hO:s.O[id]? =some (.arr xs k)) (hj:xs[j]? =some (.agg [u,v])):Weak m s {s with O:=s.O.set id (.arr (xs.set j ST2) k)}:=
  weak_cells id _ _ xs (xs.set j ST2) k hO (.inl ⟨rfl,rfl⟩) (by rw [flatMap_at hj,flatMap_setAt hj];exact WkL.app (WkL.refl _) (WkL.app (a:=[u,v]) (a':=[.any,.any]) ⟨.inr (.inr rfl),.inr (.inr rfl),trivial⟩ (WkL.refl _))) List.length_set (cells_set hj rfl)
theorem wk_rep (u v:V):∀n,WkL ((List.replicate n (V.agg [u,v])).flatMap V.cells) ((List.replicate n ST2).flatMap V.cells)
  | 0=>trivial
  | n+1=>by
    rw [List.replicate_succ,List.replicate_succ,List.flatMap_cons,List.flatMap_cons]
    exact WkL.app (a:=[u,v]) (a':=[.any,.any]) ⟨.inr (.inr rfl),.inr (.inr rfl),trivial⟩ (wk_rep u v n)
theorem weak_tail2 {m:Nat} {s:St} (id n:Nat) (xs:List V) (u v:V) (k:Kd) (hO:s.O[id]? =some (.arr (xs++List.replicate n (.agg [u,v])) k)):Weak m s {s with O:=s.O.set id (.arr (xs++List.replicate n ST2) k)}:=
  weak_cells id _ _ (xs++List.replicate n (.agg [u,v])) (xs++List.replicate n ST2) k hO (.inl ⟨rfl,rfl⟩) (by rw [List.flatMap_append,List.flatMap_append];exact WkL.app (WkL.refl _) (wk_rep u v n)) (by simp) (fun q hq z hz=>by
    rcases List.mem_append.1 hz with h | h
    · exact hq z (List.mem_append_left _ h)
    · have e:=List.eq_of_mem_replicate h
      rw [e,←hq (.agg [u,v]) (List.mem_append_right _ (List.mem_replicate.2 ⟨(List.mem_replicate.1 h).1,rfl⟩))];rfl)
end Go.Proofs.YtaefoaghpehbpaaGreat
