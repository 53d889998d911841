/- What functions compute. No condition. -/
import Derived.Test.YtmhaafinhpopmaaGreatDoorX2
set_option linter.unusedSimpArgs false
set_option linter.unusedVariables false
set_option linter.defProp false
namespace Go.Proofs.YtmhaafinhpopmaaGreatDoor
open Go Go.Vm
set_option maxHeartbeats 8000000
theorem pSameCalls_con (l:List ((Int×Int×Int×Int×Int))) (hl:l.length≤1048576):Con Tryz.prog 9 [.sl (l.map (fun t:Int×Int×Int×Int×Int=>V.agg [V.int .i64 t.1,V.int .i64 t.2.1,V.int .i64 t.2.2.1,V.int .i64 t.2.2.2.1,V.int .i64 t.2.2.2.2])),.sl (l.map (fun t:Int×Int×Int×Int×Int=>V.agg [V.int .i64 t.1,V.int .i64 t.2.1,V.int .i64 t.2.2.1,V.int .i64 t.2.2.2.1,V.int .i64 t.2.2.2.2]))] [] (.bool true) []:=by
 refine v_con [.tmp 4] [] Tryz.func9 rfl rfl rfl (by simp [Tryz.ntmps9]) ?_;intro Q0 n0 r0;simp only [Tryz.ntmps9,envFrom,Nat.reduceAdd];have T:=Tys.mk (ai Ty.t3 (ai Ty.t24 Ty.t26));have F:=Fc.mk True.intro;refine yR [0,1] ⟨?_⟩;refine v_seq ?_;intros;refine yR [0,1,10] ⟨?_⟩;refine v_cond _ rfl ?_ ?_
 ·intro hc0;exfalso;simp at hc0
 ·intro hc0;try simp only [zC,reduceCtorEq] at hc0
  refine zn [0,1] ⟨?_⟩;refine v_seq ?_;intros;refine yR [0,1,12,13] ⟨?_⟩;refine v_block ?_;intros;refine v_loop (fun i=>⟨[(0,.sl (l.map (fun t:Int×Int×Int×Int×Int=>V.agg [V.int .i64 t.1,V.int .i64 t.2.1,V.int .i64 t.2.2.1,V.int .i64 t.2.2.2.1,V.int .i64 t.2.2.2.2]))),(1,.sl (l.map (fun t:Int×Int×Int×Int×Int=>V.agg [V.int .i64 t.1,V.int .i64 t.2.1,V.int .i64 t.2.2.1,V.int .i64 t.2.2.2.1,V.int .i64 t.2.2.2.2]))),(12,.int .i64 l.length),(13,.int .i64 (Nat.cast i))],[],false,26,0⟩) (fun i=>i≤l.length) (fun i=>l.length - i) 0 ?_ ?_ ?_
  ·refine weak_of [0,1,12,13] ?_;simp only [keep_mk,keepE_nil,keepE_cons,look_cons,look_nil,Nat.reduceEqDiff,reduceIte];rfl
  ·exact qlo _
  ·rintro i hok8 Q8 n8 e8 r8;have hi1:i≤l.length:=hok8;refine yR [0,1,12,13,14] ⟨?_⟩;refine v_seq ?_;intros;refine v_condS _ rfl ?_ ?_
   ·intro hc1;have hlt:i < l.length:=by omega
    obtain ⟨⟨x0,x1,x2,x3,x4⟩,hx⟩:∃x:Int×Int×Int×Int×Int,l[i]? =some x:=⟨l[i]'(by omega),qla (by omega)⟩;refine zn [0,1,12,13] ⟨?_⟩;refine v_seq ?_;intros;refine v_block ?_;intros;have F:=Fc.mk (gdm hx);refine yR [0,1,5,12,13] ⟨?_⟩;refine v_seq ?_;intro Q15 n15 e15 r15;refine v_draw (by kernel_rfl) ?_;intro K16 q16 k16;show aAny _ _ _ _ 9 (Array.replicate 9 false) _;refine zdMove q16 true 0 16 ?_;refine zdMove q16 true 1 17 ?_;refine zdIndexAddr q16 true 2 18 ?_;refine zdLoad q16 true 3 19 ?_;refine zdMove q16 true 4 20 ?_;refine zdMove q16 true 5 21 ?_;refine zdIndexAddr q16 true 6 22 ?_;refine zdLoad q16 true 7 23 ?_;refine zdBinOp q16 true 8 24 ?_;refine aAny_done (by kernel_rfl) ?_;refine k16 _ ?_;refine n15 _ _ (weak_keep [0,1,12,13,24] _) ?_;refine zk ⟨?_⟩;refine v_cond _ rfl ?_ ?_
    ·intro hc2;exfalso;simp at hc2
    ·intro hc2;try simp only [zC,reduceCtorEq] at hc2
     refine zn [0,1,12,13] ⟨?_⟩;refine yV ⟨?_⟩;refine n8 _ (i+1) ?_ ?_ ?_
     ·refine weak_bothS [0,1,12,13] [] ⟨?_⟩;rfl
     ·exact hlt
     ·show _ < _;omega
   ·intro hc1;refine zn [] ⟨?_⟩;refine yR [4] ⟨?_⟩;refine zr ⟨?_⟩;exact ret_pure rfl rfl (.inl rfl)
def cutL (c:UInt8):List UInt8→List (List UInt8)
  | []=>[[]]
  | x::l=>if x=c then []::cutL c l else match cutL c l with
    | []=>[[x]]
    | p::ps=>(x::p)::ps
theorem cutL_ne (c:UInt8):∀l,cutL c l≠[]
  | []=>by simp [cutL]
  | x::l=>by
    rw [cutL];split
    · simp
    · cases h:cutL c l<;>simp
theorem cutL_free {c:UInt8}:∀{l:List UInt8},c ∉ l→cutL c l=[l]
  | [],_=>rfl
  | x::l,h=>by
    have hx:¬x=c:=fun e=>h (by rw [e];exact qle ..)
    rw [cutL,if_neg hx,cutL_free fun q=>h (qll _ q)]
theorem cutL_hit {c:UInt8}:∀{a r:List UInt8},c ∉ a→cutL c (a++c::r)=a::cutL c r
  | [],r,_=>by rw [List.nil_append,cutL,if_pos rfl]
  | x::a,r,h=>by
    have hx:¬x=c:=fun e=>h (by rw [e];exact qle ..)
    rw [List.cons_append,cutL,if_neg hx,cutL_hit fun q=>h (qll _ q)]
theorem idx_one {c:UInt8}:∀{l:List UInt8},(Lib.index l [c]=-1∧c ∉ l)∨∃(i:Nat) (a r:List UInt8),Lib.index l [c]=i∧l=a++c::r∧c ∉ a∧a.length=i:=by
  intro l;rcases Lib.index_spec l [c] with ⟨h,hn⟩ | ⟨i,h,hi,ho,hno⟩
  · left
    refine ⟨h,fun hm=> ?_⟩;obtain ⟨j,hj,e⟩:=List.getElem_of_mem hm;have:=hn j (by omega);rw [Lib.occAt_iff_take _ _ _ (by simp;omega)] at this;simp [List.drop_eq_getElem_cons hj,e] at this
  · right
    have hroom:i+1≤l.length:=by
      rcases Lib.occAt_room ho with q | q
      · simpa using q
      · cases q
    have hlt:i < l.length:=by omega
    have hc:l[i]? =some c:=Lib.occAt_head rfl ho;have hg:l[i]=c:=by rw [qla hlt] at hc;exact Option.some.inj hc
    refine ⟨i,l.take i,l.drop (i+1),h,?_,fun hm=> ?_,by rw [qlk];omega⟩
    · rw [←hg,←List.drop_eq_getElem_cons hlt,List.take_append_drop]
    · obtain ⟨j,hj,e⟩:=List.getElem_of_mem hm
      rw [qlk] at hj;rw [List.getElem_take] at e;have hjn:=hno j (by omega);rw [Lib.occAt_iff_take _ _ _ (by simp;omega)] at hjn;simp [List.drop_eq_getElem_cons (show j < l.length by omega),e] at hjn
theorem splitK_cut (c:UInt8):∀(n:Nat) (l:List UInt8),l.length≤n→Lib.splitK [c] 0 (Lib.count l [c]) l=cutL c l
  | n,l,hn=>by
    rcases idx_one (c:=c) (l:=l) with ⟨h,hf⟩ | ⟨i,a,r,h,e,hf,hl⟩
    · rw [Lib.count_miss h,Lib.splitK,cutL_free hf]
    · have hd:l.drop (i+1)=r:=by rw [e,←hl,List.drop_append];simp
      have ht:l.take i=a:=by rw [e,←hl,List.take_left]
      have hne:¬(Lib.index l [c] == -1)=true:=fun q=>by have:=beq_iff_eq.1 q;omega
      rw [Lib.count_hit (by simp) h,Nat.add_comm 1,Lib.splitK,if_neg hne,h,ql9];simp only [List.length_singleton,Nat.add_zero];rw [hd,ht,e,cutL_hit hf];cases n with
      | zero=>rw [e] at hn;simp at hn
      | succ n=>rw [splitK_cut c n r (by rw [e] at hn;simp at hn;omega)]
def tailC (c:UInt8):List (List UInt8)→List (List UInt8)
  | []=>[]
  | [p]=>[p]
  | p::q::ps=>(p++[c])::tailC c (q::ps)
theorem splitK_after (c:UInt8):∀(n:Nat) (l:List UInt8),l.length≤n→Lib.splitK [c] 1 (Lib.count l [c]) l=tailC c (cutL c l)
  | n,l,hn=>by
    rcases idx_one (c:=c) (l:=l) with ⟨h,hf⟩ | ⟨i,a,r,h,e,hf,hl⟩
    · rw [Lib.count_miss h,Lib.splitK,cutL_free hf];rfl
    · have hd:l.drop (i+1)=r:=by rw [e,←hl,List.drop_append];simp
      have ht:l.take (i+1)=a++[c]:=by
        rw [e,←hl,List.take_append,List.take_of_length_le (Nat.le_succ _)];simp
      have hne:¬(Lib.index l [c] == -1)=true:=fun q=>by have:=beq_iff_eq.1 q;omega
      rw [Lib.count_hit (by simp) h,Nat.add_comm 1,Lib.splitK,if_neg hne,h,ql9];simp only [List.length_singleton];rw [hd,ht,e,cutL_hit hf];cases n with
      | zero=>rw [e] at hn;simp at hn
      | succ n=>
        rw [splitK_after c n r (by rw [e] at hn;simp at hn;omega)];cases hq:cutL c r with
        | nil=>exact absurd hq (cutL_ne _ _)
        | cons p ps=>rfl
def glueL (x:UInt8):List (List UInt8)→List (List UInt8)
  | []=>[[x]]
  | [p]=>[p++[x]]
  | p::q::ps=>p::glueL x (q::ps)
theorem cutL_snoc (c x:UInt8):∀l,cutL c (l++[x])=if x=c then cutL c l++[[]] else glueL x (cutL c l)
  | []=>by
    rw [List.nil_append]
    by_cases h:x=c
    · rw [if_pos h]
      show (if x=c then _ else _)=_;rw [if_pos h];rfl
    · rw [if_neg h]
      show (if x=c then _ else _)=_;rw [if_neg h];rfl
  | y ::l=>by
    rw [List.cons_append,cutL,cutL_snoc c x l,cutL]
    by_cases hx:x=c
    · rw [if_pos hx,if_pos hx]
      by_cases hy:y=c
      · rw [if_pos hy,if_pos hy];rfl
      · rw [if_neg hy,if_neg hy]
        cases hq:cutL c l with
        | nil=>exact absurd hq (cutL_ne _ _)
        | cons p ps=>rfl
    · rw [if_neg hx,if_neg hx]
      by_cases hy:y=c
      · rw [if_pos hy,if_pos hy]
        cases hq:cutL c l with
        | nil=>exact absurd hq (cutL_ne _ _)
        | cons p ps=>rfl
      · rw [if_neg hy,if_neg hy]
        cases hq:cutL c l with
        | nil=>exact absurd hq (cutL_ne _ _)
        | cons p ps=>cases ps<;>rfl
theorem glueL_snoc (x:UInt8) (p:List UInt8):∀ps:List (List UInt8),glueL x (ps++[p])=ps++[p++[x]]
  | []=>rfl
  | [q]=>rfl
  | q::r::ps=>by
    show q::glueL x (r::ps++[p])=_;rw [glueL_snoc x p (r::ps)];rfl
def toL (s:ByteArray):List UInt8:=s.data.toList
theorem toL_inj {a b:ByteArray} (h:toL a=toL b):a=b:=by
  apply ByteArray.ext;apply Array.ext';exact h
theorem toL_len (a:ByteArray):(toL a).length=a.size:=Array.length_toList ..
theorem toL_app (a b:ByteArray):toL (a++b)=toL a++toL b:=by
  rw [toL,ByteArray.data_append,Array.toList_append];rfl
theorem toL_ext (s:ByteArray) (a b:Nat):toL (s.extract a b)=((toL s).take b).drop a:=by
  rw [toL,ByteArray.data_extract,Array.toList_extract,List.extract_eq_take_drop,List.drop_take];rfl
theorem split_cut (s:ByteArray) (c:UInt8):∀i,i≤s.size→(splitSt s (c.toNat:Int) i).1.map toL++[((toL s).take i).drop (splitSt s (c.toNat:Int) i).2]=cutL c ((toL s).take i)
  | 0,_=>by simp [splitSt,cutL]
  | i + 1,hi=>by
    have hlt:i < (toL s).length:=by rw [toL_len];omega
    have hx:(toL s)[i]? =some (toL s)[i]:=qla hlt;have ih:=split_cut s c i (by omega);have hfr:=split_from s (c.toNat:Int) i;have hb:byteAt s i=((toL s)[i].toNat:Int):=by
      show (((toL s).getD i 0).toNat:Int)=_;rw [qld,hx];rfl
    have htl:((toL s).take i).length=i:=by rw [qlk];omega
    rw [List.take_add_one,hx,Option.toList_some,cutL_snoc,←ih,splitSt]
    by_cases e:(toL s)[i]=c
    · rw [if_pos e,if_pos (by rw [hb,e])]
      show ((splitSt s _ i).1++[s.extract _ i]).map toL++[((toL s).take i++[(toL s)[i]]).drop (i+1)]=_;rw [ql5,List.drop_of_length_le (by rw [qlg,htl];simp)];show _++[toL (s.extract _ i)]++_=_;rw [toL_ext]
    · rw [if_neg e,if_neg (by rw [hb];intro q;exact e (UInt8.toNat_inj.1 (by omega))),glueL_snoc,List.drop_append_of_le_length (by rw [htl];exact hfr)]
theorem parts_cut (s:ByteArray) (c:UInt8):((splitSt s (c.toNat:Int) s.size).1++[s.extract (splitSt s (c.toNat:Int) s.size).2 s.size]).map toL=cutL c (toL s):=by
  have h:=split_cut s c s.size (qlf _);have e:(toL s).take s.size=toL s:=List.take_of_length_le (by rw [toL_len];exact qlf _);rw [e] at h;rw [ql5,qma,List.map_nil,toL_ext,e,h]
theorem splitB_cut (s:ByteArray) (c:UInt8):(Lib.splitB ⟨#[c]⟩ 0 (Lib.countB s ⟨#[c]⟩) s).map toL=cutL c (toL s):=by
  have h:=Lib.splitB_data ⟨#[c]⟩ 0 (Lib.countB s ⟨#[c]⟩) s;have k:=splitK_cut c _ (toL s) (qlf _);exact h.trans k
theorem splitB_after (s:ByteArray) (c:UInt8):(Lib.splitB ⟨#[c]⟩ 1 (Lib.countB s ⟨#[c]⟩) s).map toL=tailC c (cutL c (toL s)):=by
  have h:=Lib.splitB_data ⟨#[c]⟩ 1 (Lib.countB s ⟨#[c]⟩) s;have k:=splitK_after c _ (toL s) (qlf _);exact h.trans k
end Go.Proofs.YtmhaafinhpopmaaGreatDoor
